import PyProof.Rows.All
import Wide.All
import OpenK.AllK
import Wide.FinOn
import HandS.ForMost
import HandS.ForExc
import HandS.Lambda
import HandS.EndTab
import HandS.RaiseMore
import HandS.IsInst
import PyProof.ReprRoads
import PyProof.CallFns
import HandS.ExcIs
import HandS.ExcField
import HandS.ExcInit
import HandS.TryMany
import KE.KExcIs
import HandS.Strs
import HandS.SetFor
import HandS.SetBool
import HandS.Star
import HandS.Nested
import HandS.ClsMeth
import KE.KSuper
import KE.KCallOwn
import OpenK.KOps
import HandS.SlotsOwn
import PyProof.InstEq
import KE.KOpsOwn
import OpenK.KMeth
import HandS.Evl
import HandS.Property
import HandS.FStr
import HandS.Text
import PyProof.EqKinds
import PyProof.MeetsIn
import KE.DataEq
import PyProof.FactsAll.dict
import HandS.Comp
import HandS.Dict
import HandS.Style
import HandS.WideBits
import HandS.More
import HandS.Small
import HandS.Defaults
import PyProof.StrLaws
import KE.KNestM
import KE.RegKSuper
import HandS.Words
import PySem.Challenge.RW_rankchances_k13_texts_and_equal_terms
set_option Elab.async false
set_option linter.all false
set_option maxRecDepth 100000
set_option maxHeartbeats 4000000
/-! General rules: a def's promise where no repr runs (Fn), repr of data. -/
namespace LG
open PySem PySem.Spec PyProof.Rows L2

/-! ### Fn: a promise by positional values, told where no guard is on the stack -/
def Fn (P : Program) (w : World) (K : PySem.W.Frag) (mg : Str → Option Value) (base : Heap) (k : Nat) (f : Addr) (sp : Sp) : Prop :=
  ∀ (A : Around) (outer : List Env) (s : Shared) (H : Hp) (us : List Value) (vs : List V) (Q : VK) (E : XK),
    A.guards = some [] → Room k A → Env0 P w K mg base A outer s H → Vals vs us → sp vs H Q E →
    codeAny (model P w) A (.call (.ref f) ⟨us, []⟩) (CR (L2.CX P w) outer P w H s Q E) s
section
variable {P : Program} {w : World} {K : PySem.W.Frag} {mg : Str → Option Value} {base : Heap} {j k : Nat} {f : Addr} {sp sp' : Sp}
theorem Fn.mono (F : Fn P w K mg base j f sp) (h : j ≤ k) : Fn P w K mg base k f sp :=
  fun A o s H us vs Q E g r => F A o s H us vs Q E g (r.mono h)
theorem Fn.imp (F : Fn P w K mg base k f sp) (h : ∀ vs H Q E, sp' vs H Q E → sp vs H Q E) : Fn P w K mg base k f sp' :=
  fun A o s H us vs Q E g r e0 rv z => F A o s H us vs Q E g r e0 rv (h _ _ _ _ z)
/-- a def of the text (no defaults used), by its body -/
theorem Fn.of {x qual : Str} {st : Stmt} {fd : FuncData} {N ps : List Str} (F : Fun K x qual st f fd) (S : FnScope N ps (defScope st)) (hb : Binds K fd ps [])
    (len : ∀ vs H Q E, sp vs H Q E → vs.length = ps.length)
    (body : ∀ (cdv : Value) (A : Around) (outer : List Env) (s : Shared) (H : Hp) (vs : List V) (Q : VK) (E : XK), A.guards = some [] →
      Room k (A.deeper (envOfC qual (defScope st) s.heap.objs.size f cdv)) → PySem.W.codeIn K cdv qual = true → sp vs H Q E →
      ∃ t, PSs (cxOf (L2.CX P w) P w K mg base N qual (defScope st) f cdv A outer s H E) (defBody st) t ∧ t { nx := fun _ H' => Q .non H', rt := Q } (start N vs) H) :
    Fn P w K mg base (k + 1) f sp := by
  intro A outer s H us vs Q E hg hr e0 rv hsp
  obtain ⟨oc, od, kV, doc, pm, an, cdv, ct, osl, rfl, lk, hcd⟩ := F.ex
  have hl := len _ _ _ _ hsp
  have KX : K.In s.heap := e0.mod.kin.keeps fun b o e => (e0.bs b o e).1
  have hul : us.length = ps.length := by rw [← rv.length]; exact hl
  have hb' := hb s us KX (by rw [List.append_nil]; exact hul)
  rw [List.append_nil] at hb'
  exact LamX.run_ofS lk hcd S hr e0 hb' rv hl fun hr' => body cdv A outer s H vs Q E hg hr' hcd hsp
end
section
variable {X : Cx} {k : Nat} {f : Addr} {sp : Sp} {E : XK} {x : Str} {p pos : Pos} {e : Expr} {es : List Expr} {t : TA}
theorem run_Fn {pins : List (Addr × Obj)} {σ : L2.St} {H : Hp} {s : Shared} {Q : VK} {us : List Value} {vs : List V} (F : Fn X.prog X.w X.K X.mg X.base k f sp) (g0 : X.A.guards = some []) (hr : Room k X.A)
    (hx : Passes (L2.CX X.prog X.w) X E) (I : Inv X pins σ H s) (r : Vals vs us) (h : sp vs H Q E) : wpAny (model X.prog X.w) X.A (call (.ref f) us) (EP X pins σ Q) X.xe s := by
  refine wpAny_call (codeAny_mono (F X.A X.stack s H us vs Q E g0 hr I.env0 r h) fun res s' hq => ?_)
  match res, hq with
  | .error e, hq => exact hx pins σ H s e s' I hq
  | .ok (.ret u), hq => exact I.after hq
  | .ok .next, hq => exact hq.elim
  | .ok .brk, hq => exact hq.elim
  | .ok .cont, hq => exact hq.elim
/-- f(e, ..) -/
def tFn (sp : Sp) (E : XK) (t : TA) : TE := fun σ H Q => t σ H fun vs H1 => sp vs H1 Q E
theorem pe_fn (F : Fn X.prog X.w X.K X.mg X.base k f sp) (g0 : X.A.guards = some []) (hr : Room k X.A) (hk : PySem.W.keepIn X.K (.ref f) = true) (hm : X.mg x = some (.ref f)) (hg : Gl X x) (hx : Passes (L2.CX X.prog X.w) X E)
    (ha : PA X (e :: es) t) (hdb : (x == ("__debug__" : Str)) = false := by decide) (he : starEach (e :: es) X.env = (false, eval e X.env) :: starEach es X.env := by rfl)
    (hpl : (backTo pos (starEach es X.env)).any (·.1) = false := by rfl) : PE X (.Call (.Name x p) (e :: es) [] pos) (tFn sp E t) := by
  constructor
  intro pins s σ H Q I h
  refine wpAny_Call_Name_kw (ld_glob I hg hm (PySem.W.callWith_K (h₀ := X.base) I.ok.mod.kin hk (thn (ha.run pos pins s σ H _ I h) ?_) he hpl) hdb)
  rintro us s1 ⟨vs, H1, I1, r, q⟩
  exact ⟨I1.kIn, run_Fn F g0 hr hx I1 r q⟩
/-- f() -/
theorem pe_fn0 (F : Fn X.prog X.w X.K X.mg X.base k f sp) (g0 : X.A.guards = some []) (hr : Room k X.A) (hk : PySem.W.keepIn X.K (.ref f) = true) (hm : X.mg x = some (.ref f)) (hg : Gl X x) (hx : Passes (L2.CX X.prog X.w) X E)
    (hdb : (x == ("__debug__" : Str)) = false := by decide) : PE X (.Call (.Name x p) [] [] pos) (fun _ H Q => sp [] H Q E) := by
  constructor
  intro pins s σ H Q I h
  exact wpAny_Call_Name_kw (ld_glob I hg hm (PySem.W.callWith_K0 I.kIn hk (run_Fn (us := []) F g0 hr hx I .nil h)) hdb)
end

/-! ### data of any depth, dicts among it: what repr tells of it -/
def plainD : PyData → Bool
  | .none | .bool _ | .int _ | .str _ => true
  | _ => false
mutual
inductive Dq (K : PySem.W.Frag) (H : Hp) : V → PyData → Prop
  | non : Dq K H .non .none
  | bl (b : Bool) : Dq K H (.bl b) (.bool b)
  | int (i : Int) : Dq K H (.int i) (.int i)
  | str (x : Str) : Dq K H (.str x) (.str x)
  | lst {a : Addr} {xs : List V} {ds : List PyData} : SqL K H a xs → DqAll K H xs ds → a ≠ sysModules → Dq K H (.ref a) (.list ds)
  | tup {a : Addr} {xs : List V} {ds : List PyData} : SqT K H a xs → DqAll K H xs ds → Dq K H (.ref a) (.tuple ds)
  | dic {a : Addr} {kvs : List (Key × V)} {ds : List (PyData × PyData)} : H a = some (.dK kvs) → DqKv K H kvs ds → Dq K H (.ref a) (.dict ds)
inductive DqAll (K : PySem.W.Frag) (H : Hp) : List V → List PyData → Prop
  | nil : DqAll K H [] []
  | cons {v : V} {vs : List V} {d : PyData} {ds : List PyData} : Dq K H v d → DqAll K H vs ds → DqAll K H (v :: vs) (d :: ds)
inductive DqKv (K : PySem.W.Frag) (H : Hp) : List (Key × V) → List (PyData × PyData) → Prop
  | nil : DqKv K H [] []
  | cons {k : Key} {v : V} {vs : List (Key × V)} {dk d : PyData} {ds : List (PyData × PyData)} : Dq K H (kV k) dk → plainD dk = true → Dq K H v d → plainD d = true → DqKv K H vs ds → DqKv K H ((k, v) :: vs) ((dk, d) :: ds)
end
section
variable {X : Cx} {pins : List (Addr × Obj)} {σ : L2.St} {H : Hp} {s : Shared}
theorem plain_reads {h : Heap} {v : V} {u : Value} {d : PyData} {K : PySem.W.Frag} (q : Dq K H v d) (p : plainD d = true) (r : RelV v u) : Reads h u d [] := by
  cases q with
  | non => cases r; exact .none
  | bl b => cases r; exact .bool b
  | int i => obtain ⟨t, rfl⟩ := r; exact .int i t
  | str x => obtain ⟨t, rfl⟩ := r; exact .str x t
  | lst _ _ _ => cases p
  | tup _ _ => cases p
  | dic _ _ => cases p
theorem key_rel {k : Key} {u : Value} (h : keyIs k u = true) : RelV (kV k) u := by
  rcases keyIs_shape h with ⟨i, t, rfl, rfl⟩ | ⟨x, t, rfl, rfl⟩
  · exact ⟨t, rfl⟩
  · exact ⟨t, rfl⟩
theorem kv_reads {h : Heap} {K : PySem.W.Frag} {P : Program} {w : World} : ∀ {kvs : List (Key × V)} {ds : List (PyData × PyData)} {vs : List (Key × Value)} {es : List DictEntry}, DqKv K H kvs ds → KV kvs vs → Pairs (mixKind P w) es vs →
    ReadsAll h (es.map (·.key)) (ds.map (·.1)) [] ∧ ReadsAll h (es.map (·.val)) (ds.map (·.2)) []
  | _, _, _, _, .nil, .nil, .nil => ⟨.nil, .nil⟩
  | _, _, _, _, .cons dk pk dv pv r, .cons hk hr, .cons ik ev hp => by
    obtain ⟨h1, h2⟩ := kv_reads r hr hp
    have e1 := hk.1
    have e2 := hk.2
    dsimp only at e1 e2
    refine ⟨ReadsAll.cons (as := []) (plain_reads dk pk (key_rel ?_)) h1, ReadsAll.cons (as := []) (plain_reads dv pv ?_) h2⟩
    · rw [e1]
      exact ik
    · exact (congrArg (L2.RelV _) ev).mpr e2
mutual
theorem Dq.reads (I : Inv X pins σ H s) : ∀ (d : PyData) (v : V) (u : Value), Dq X.K H v d → RelV v u → ∃ as, Reads s.heap u d as ∧ sysModules ∉ as
  | .none, _, _, h, r => ⟨[], plain_reads h rfl r, List.not_mem_nil⟩
  | .bool _, _, _, h, r => ⟨[], plain_reads h rfl r, List.not_mem_nil⟩
  | .int _, _, _, h, r => ⟨[], plain_reads h rfl r, List.not_mem_nil⟩
  | .str _, _, _, h, r => ⟨[], plain_reads h rfl r, List.not_mem_nil⟩
  | .list ds, _, _, h, r => by
    cases h with
    | lst hs ha hn =>
      cases r
      obtain ⟨its, rv, ⟨o, n, ho, hc, _, hd⟩, _⟩ := I.list hs
      obtain ⟨as, hr, hz⟩ := Dq.readsAll I ds _ its ha rv
      exact ⟨_, Reads.list ho hc hd hr, fun z => (List.mem_cons.mp z).elim (fun e => hn e.symm) hz⟩
  | .tuple ds, _, _, h, r => by
    cases h with
    | tup hs ha =>
      cases r
      obtain ⟨its, rv, ⟨o, ho, hc, n, hd⟩, _⟩ := I.tuple hs
      obtain ⟨as, hr, hz⟩ := Dq.readsAll I ds _ its ha rv
      exact ⟨_, Reads.tuple ho hc hd hr, hz⟩
  | .dict ds, _, _, h, r => by
    cases h with
    | @dic a kvs _ hs ha =>
      cases r
      obtain ⟨_, hsys, vs, kv, o, es, ep, ho, hc, hd, _, hp, _⟩ := I.hok a _ hs
      obtain ⟨h1, h2⟩ := kv_reads (h := s.heap) ha kv hp
      refine ⟨_, Reads.dict ho hc.1 hd h1 h2, fun z => ?_⟩
      rw [List.append_nil] at z
      have z2 := List.mem_singleton.mp z
      rw [← z2] at hsys
      simp at hsys
theorem Dq.readsAll (I : Inv X pins σ H s) : ∀ (ds : List PyData) (vs : List V) (us : List Value), DqAll X.K H vs ds → Vals vs us → ∃ as, ReadsAll s.heap us ds as ∧ sysModules ∉ as
  | [], _, _, h, r => by
    cases h
    cases r
    exact ⟨_, ReadsAll.nil, List.not_mem_nil⟩
  | d :: ds, _, _, h, r => by
    cases h with
    | cons h1 h2 =>
      cases r with
      | cons r1 r2 =>
        obtain ⟨as, q1, z1⟩ := Dq.reads I d _ _ h1 r1
        obtain ⟨bs, q2, z2⟩ := Dq.readsAll I ds _ _ h2 r2
        exact ⟨_, ReadsAll.cons q1 q2, fun z => (List.mem_append.mp z).elim z1 z2⟩
end
end
mutual
theorem Dp.noDict {K : PySem.W.Frag} {H : Hp} : ∀ (d : PyData) (v : V), Dp K H v d → d.hasDict = false
  | .none, _, _ => by simp only [PyData.hasDict]
  | .bool _, _, _ => by simp only [PyData.hasDict]
  | .int _, _, _ => by simp only [PyData.hasDict]
  | .str _, _, _ => by simp only [PyData.hasDict]
  | .list ds, _, h => by
    cases h with
    | lst _ ha =>
      simp only [PyData.hasDict]
      exact DpAll.noDict ds _ ha
  | .tuple ds, _, h => by
    cases h with
    | tup _ ha =>
      simp only [PyData.hasDict]
      exact DpAll.noDict ds _ ha
  | .dict _, _, h => by cases h
theorem DpAll.noDict {K : PySem.W.Frag} {H : Hp} : ∀ (ds : List PyData) (vs : List V), DpAll K H vs ds → PyData.hasDictAll ds = false
  | [], _, _ => by simp only [PyData.hasDictAll]
  | d :: ds, _, h => by
    cases h with
    | cons h1 h2 => simp only [PyData.hasDictAll, Dp.noDict d _ h1, DpAll.noDict ds _ h2, Bool.or_self]
end
/-- what repr asks of data: its numbers are no longer than the line, its text fits, it is not deep -/
def Shows (d : PyData) : Prop := d.showable = true ∧ d.depth ≤ 60 ∧ d.shown.length ≤ sizeLine
def rRepr (K : PySem.W.Frag) : List V → Hp → VK → Prop := fun xs H Q => ∃ (x : V) (d : PyData), xs = [x] ∧ (Dq K H x d ∨ Dp K H x d) ∧ Shows d ∧ Q (.str d.shown) H
section
variable {X : Cx}
theorem shown_bool (b : Bool) : (PyData.bool b).shown = (if b then Str.ofString "True" else Str.ofString "False") := by cases b <;> simp only [PyData.shown] <;> rfl
theorem call_repr (hg : X.A.guards = some []) (hu : X.A.units + 64 < cLine) : CallR X (.builtin "repr") (rRepr X.K) := by
  intro pins s σ H xs us Q I r h
  obtain ⟨x, d, rfl, hd, ⟨hs, hdp, hz⟩, q⟩ := h
  obtain ⟨u, rfl, ru⟩ := vals1 r
  have rd : ∃ as, Reads s.heap u d as ∧ (d.hasDict = true → sysModules ∉ as) := by
    rcases hd with hd | hd
    · obtain ⟨as, z1, z2⟩ := Dq.reads I d x u hd ru
      exact ⟨as, z1, fun _ => z2⟩
    · obtain ⟨as, z1⟩ := Dp.reads I d x u hd ru
      exact ⟨as, z1, PyData.noDict_hsm (Dp.noDict d x hd)⟩
  obtain ⟨as, z1, z2⟩ := rd
  have fin : ∀ (h' : Heap) (tk : Nat) (t : Tok), (∀ b o, s.heap.get? b = some o → h'.get? b = some o) → EP X pins σ Q (.str d.shown t) { s with heap := h', toks := tk } :=
    fun h' tk t hk => ⟨.str d.shown, H, I.kept hk, ⟨t, rfl⟩, q⟩
  have tail : ∀ a, u = .ref a → wpAny (model X.prog X.w) X.A (call (.builtin "repr") [u]) (EP X pins σ Q) X.xe s := by
    intro a e
    subst e
    exact repr_of_reads' z1 hs z2 hg (by omega) (fun _ _ e => e) (fun h' t tk hk => fin h' tk t hk) hz
  cases z1 with
  | none => exact PySem.P.repr_of_none (fin s.heap _ _ fun _ _ e => e)
  | bool b =>
    have e := fin s.heap (s.toks + 1) s.toks fun _ _ e => e
    rw [shown_bool] at e
    exact PySem.P.repr_of_bool e
  | int i t =>
    have hi : i.natAbs.log2 < 1920 := by
      unfold PyData.showable at hs
      exact of_decide_eq_true hs
    exact PySem.P.repr_of_int hi (fin s.heap _ _ fun _ _ e => e)
  | str y t => exact PySem.P.repr_of_str (fin s.heap _ _ fun _ _ e => e) hz
  | list _ _ _ _ => exact tail _ rfl
  | tuple _ _ _ _ => exact tail _ rfl
  | dict _ _ _ _ _ => exact tail _ rfl
end
/-! ### lists that are made: they are not the table of modules -/
section
variable {X : Cx} {es : List Expr} {t : TA} {pos : Pos}
theorem big_of {pins : List (Addr × Obj)} {σ : L2.St} {H : Hp} {s : Shared} (I : Inv X pins σ H s) : sysModules < s.heap.objs.size :=
  Nat.lt_of_lt_of_le (Nat.lt_trans (by decide) I.mod.glob.lt) (Nat.le_trans I.ok.bsz I.sz)
def tLstB (t : TA) : TE := fun σ H Q => t σ H fun xs H1 => xs.length ≤ sizeLine ∧ ∀ p, H1 p = none → p ≠ sysModules → Q (.ref p) (upd H1 p (.lst xs))
theorem pe_lstB (h : PA X es t) : PE X (.List es pos) (tLstB t) := by
  constructor
  intro pins s σ H Q I hq
  refine wpAny_List_spliced (thn (h.run pos pins s σ H _ I hq) ?_)
  rintro us s1 ⟨xs, H1, I1, r, z, q⟩
  have hf := I1.hok.fresh (a := s1.heap.objs.size) (Nat.le_refl _)
  have hl : us.length ≤ sizeLine := by
    rw [← r.length]
    exact z
  exact ⟨hl, .ref s1.heap.objs.size, upd H1 s1.heap.objs.size (.lst xs), I1.laid (t' := s1.toks) (fun b u e => Heap.get?_push_of_some _ e) (Nat.le_refl _) ⟨z, us, 0, r, Heap.get?_push_size _ rfl⟩, rfl, q _ hf (Nat.ne_of_gt (big_of I1))⟩
end
end LG
/-! Several clauses "except X as n" of one name n; isinstance of a caught error that has its own dict. -/
namespace LG
open PySem PySem.Spec PyProof.Rows L2

/-- behind a suite the clause's name is gone -/
def offN (i : Nat) (D : Ends) : Ends := { nx := fun σ H => D.nx (σ.set i none) H, rt := D.rt, bk := fun σ H => D.bk (σ.set i none) H, ct := fun σ H => D.ct (σ.set i none) H }
/-- what the clauses wish of an error of the body, one after the other -/
def wManyAs (K : PySem.W.Frag) (i : Nat) (Wout : WX) (D : Ends) : List (Value × (Addr → Value → Option Addr → TS)) → WX
  | [] => Wout
  | p :: r => fun cls d σ H => ∃ b, PySem.W.exmOne K cls p.1 = some b ∧
      (b = true → ∀ a, H a = none → p.2 a cls d (offN i D) (σ.set i (some (.ref a))) H) ∧ (b = false → wManyAs K i Wout D r cls d σ H)
/-- the clauses as they stand -/
inductive HdsAs (X : Cx) (n : Str) : List ExceptHandler → List (Value × (Addr → Value → Option Addr → TS)) → Prop
  | nil : HdsAs X n [] []
  | cons {x : Str} {c : Value} {ts : Addr → Value → Option Addr → TS} {b₀ : Stmt} {suite : List Stmt} {np pos' : Pos} {hds : List ExceptHandler} {l : List (Value × (Addr → Value → Option Addr → TS))}
      (hc : Names X x c) (hsu : ∀ (a : Addr) (oe : Obj) (cls : Value) (d : Option Addr) (pn : List (Addr × Obj)), Zc cls d oe → (∃ vs, oe.data = .fields vs) → PSs (X.suite a ((a, oe) :: pn)) (b₀ :: suite) (ts a cls d))
      (r : HdsAs X n hds l) : HdsAs X n (.ExceptHandler (some (.Name x np)) (some n) (b₀ :: suite) pos' :: hds) ((c, ts) :: l)
section
variable {X : Cx} {n : Str} {i : Nat} {body : List Stmt} {h₀ : ExceptHandler} {hds : List ExceptHandler} {l : List (Value × (Addr → Value → Option Addr → TS))} {pos : Pos} {tb : WX → TS} {Wout : WX}
/-- the clauses, from the first one on, where the error at a is in flight -/
theorem clauses_as (hs : X.stack = X.env :: X.outer) (hf : X.env.frame = some X.env.locals) (hN : X.N.Nodup) (hi : X.N[i]? = some n) (hln : X.env.kindOf n = some .local) (tk : Takes X Wout)
    {pins pinsF : List (Addr × Obj)} {σ : L2.St} {H : Hp} {D : Ends} {sI s : Shared} {a : Addr} {B h3 : Heap} {cls : Value} {d : Option Addr}
    (J : Inv X pins σ H sI) (nb : ∀ b o, sI.heap.get? b = some o → b ∉ frs X.stack → B.get? b = some o) (fl : HandSPX.FlyingZ B (X.env :: X.outer) a (Zc cls d) h3) (up : sI.heap.UpToSlots h3)
    (na : H a = none) (os : s.os = sI.os) (ag : AllBare s.gens) (ep : pinsF = pins) :
    ∀ {hds : List ExceptHandler} {l : List (Value × (Addr → Value → Option Addr → TS))}, HdsAs X n hds l → wManyAs X.K i Wout D l cls d σ H →
      wpAny (model X.prog X.w) X.A (handleBy (.ref a) X.env hds) (SP X pinsF D) X.xe { s with heap := h3 } := by
  subst ep
  have ok := J.ok
  have J3 : Inv X pinsF σ H { s with heap := h3 } := J.landed nb fl.1 up os ag
  obtain ⟨oe3, vs3, he3, hz3, hd3⟩ := fl.there
  have nfr : a ∉ frs (X.env :: X.outer) := by
    intro hm
    obtain ⟨_, o, eo, hno⟩ := fl.2.2.1.mem hm
    rw [he3] at eo
    cases eo
    exact hno _ hd3
  have nL : a ≠ X.env.locals := fun z => nfr (List.mem_filterMap.mpr ⟨X.env, List.mem_cons_self, by rw [hf, z]⟩)
  have nF : a ∉ X.fs := by
    intro hm
    obtain ⟨e, he, q⟩ := List.mem_filterMap.mp hm
    exact nfr (List.mem_filterMap.mpr ⟨e, List.mem_cons_of_mem _ he, q⟩)
  have S3 := J3.suite he3 hd3 na nL nF
  have ty : PySem.W.Looks (model X.prog X.w) h3 (typeOf (.ref a)) cls := fun A Q E s k q => wpAny_typeOf_ref (k _ _ he3) (by rw [hz3.1]; exact q)
  intro hds l hk
  induction hk with
  | nil =>
    intro w
    refine wpAny_handleBy_nil ?_
    obtain ⟨_, _, _, oe, vs, T, oT, ts', he, _, hd, h1, _⟩ := id fl
    have last : wpAny (model X.prog X.w) X.A (setFlight (.ref a) X.env.frame) (fun _ s4 => wpAny (model X.prog X.w) X.A (throw (.ref a) : Sem Flow) (SP X pinsF D) X.xe s4) X.xe { s with heap := h3 } := by
      rw [hf]
      refine HandSPX.setFlight_upZ fl fun h4 hh4 up4 => wpAny_throw (tk _ _ ?_)
      exact ⟨a, B, sI, pinsF, σ, H, cls, d, rfl, J, nb, up.trans up4, .inr (.inr (by rw [hs]; exact hh4)), na, os, ag, w⟩
    unfold PySem.passOn
    refine wpAny_bind (wpAny_field he hd h1 ?_)
    rw [if_neg (by simp : ¬ ((Value.ref T == Value.none) = true))]
    first
      | exact wpAny_bind (wpAny_pure (wpAny_bind last))
      | exact wpAny_bind last
  | @cons x c ts b₀ suite np pos' rest l2 hc hsu r ih =>
    intro w
    obtain ⟨b, hb1, yes, no⟩ := w
    have nameOk : ∀ {Q : Value → Shared → Prop} {E : Value → Shared → Prop}, Q c { s with heap := h3 } → wpAny (model X.prog X.w) (X.A.mark (some (.ref a))) (eval (.Name x np) X.env) Q E { s with heap := h3 } := by
      intro Q E q
      obtain ⟨hg, hdb, hm | ⟨hm, hv, hnn⟩⟩ := hc
      · exact ld_glob (X := X.suite a ((a, oe3) :: (X.pn ++ pinsF))) S3 hg hm q hdb
      · exact ld_blt (X := X.suite a ((a, oe3) :: (X.pn ++ pinsF))) S3 hg hm hv q hnn hdb
    refine wpAny_handleBy_cons (codeAny_handlers_test (nameOk ((PySem.W.exm_one (M := model X.prog X.w) J3.kIn ty hb1).here ?_))) nofun
    cases b with
    | false => exact ih (no rfl)
    | true =>
      refine codeAny_handlers_suite_as (HandSPX.lands_againZ fl fun h4 fl4 up4 => ?_)
      have J4 : Inv X pinsF σ H { s with heap := h4 } := J.landed nb fl4.1 (up.trans up4) os ag
      obtain ⟨oe4, vs4, he4, hz4, hd4⟩ := fl4.there
      refine store_ok (X := X.suite a ((a, oe4) :: (X.pn ++ pinsF))) (v := .ref a) (J4.suite he4 hd4 na nL nF) hN hi (.inl hln) rfl (fun s5 S5 => ?_) (.inr hln)
      have gone : ∀ {σ6 : L2.St} {H6 : Hp} {s6 : Shared} {Q : Shared → Prop}, Inv (X.suite a ((a, oe4) :: (X.pn ++ pinsF))) [] σ6 H6 s6 → (∀ s7, Inv X pinsF (σ6.set i none) H6 s7 → Q s7) →
          wpAny (model X.prog X.w) X.A (do bindName X.env n .none; unbindBehindTheSuite X.env n pos') (fun _ s7 => Q s7) X.xe s6 := fun S6 hq => gone_ok (S6.unsuite ok) hN hi hln hq
      refine wpAny_mono ((hsu a oe4 cls d (X.pn ++ pinsF) hz4 ⟨_, hd4⟩).run [] s5 _ H _ S5 (yes rfl a na)) (fun f s6 hf6 => ?_) (fun _ _ z => z.elim)
      match f, hf6 with
      | .next, ⟨_, _, S6, q6⟩ => exact gone S6 fun s7 J7 => ⟨_, _, J7, q6⟩
      | .brk, ⟨_, _, S6, q6⟩ => exact gone S6 fun s7 J7 => ⟨_, _, J7, q6⟩
      | .cont, ⟨_, _, S6, q6⟩ => exact gone S6 fun s7 J7 => ⟨_, _, J7, q6⟩
      | .ret u, ⟨_, _, _, S6, r6, q6⟩ => exact gone S6 fun s7 J7 => ⟨_, _, _, J7, r6, q6⟩
/-- try: body / except X as n: .. / except Y as n: .. -/
theorem ps_try_manyAs (hs : X.stack = X.env :: X.outer) (hf : X.env.frame = some X.env.locals) (hN : X.N.Nodup) (hi : X.N[i]? = some n) (hln : X.env.kindOf n = some .local) (tk : Takes X Wout)
    (hb : ∀ (W : WX) (pn : List (Addr × Obj)) (xe : Value → Shared → Prop), Takes (X.tr pn xe) W → PassesOwn (model X.prog X.w) X.A X.env xe → PSs (X.tr pn xe) body (tb W)) (hh : HdsAs X n (h₀ :: hds) l) :
    PS X (.Try body (h₀ :: hds) [] [] pos) (fun D σ H => tb (wManyAs X.K i Wout D l) D σ H) := by
  constructor
  intro pins s σ H D I h
  have ok := I.ok
  have hfr : X.A.frames = some (X.env :: X.outer) := by
    rw [ok.frames, hs]
  refine wpAny_Try_except (wpAny_mono ((hb (wManyAs X.K i Wout D l) (X.pn ++ pins) (fun e s₁ => wpAny (model X.prog X.w) X.A (noteFrame e X.env) (fun _ s₂ => wpAny (model X.prog X.w) X.A (setFlight e none)
    (fun _ s₃ => wpAny (model X.prog X.w) X.A (handleBy e X.env (h₀ :: hds)) (SP X pins D) X.xe s₃) X.xe s₂) X.xe s₁) (fun u s' xx => ?_) PassesOwn.looking).run [] s σ H D (I.toTry _) h) (fun f s1 hsp => ?_) fun _ _ he => he)
  · obtain ⟨a, B, sI, pins', σ', H', cls, d, rfl, J', nb, up, sky, na, os, ag, w⟩ := xx
    have J : Inv X pins σ' H' sI := J'.ofTry ok
    rw [hs] at sky
    show wpAny (model X.prog X.w) X.A (noteFrame (.ref a) X.env) _ _ _
    refine Sky.land Zc.steady hfr hf sky fun h3 fl3 up3 => ?_
    exact clauses_as hs hf hN hi hln tk J nb fl3 (up.trans up3) na os ag rfl hh w
  · match f, hsp with
    | .next, ⟨_, _, J', q⟩ => exact wpAny_execs_nil ⟨_, _, J'.ofTry ok, q⟩
    | .brk, ⟨_, _, J', q⟩ => exact ⟨_, _, J'.ofTry ok, q⟩
    | .cont, ⟨_, _, J', q⟩ => exact ⟨_, _, J'.ofTry ok, q⟩
    | .ret u, ⟨_, _, _, J', r, q⟩ => exact ⟨_, _, _, J'.ofTry ok, r, q⟩
end
/-! ### isinstance(e, c), e an error with an own dict -/
theorem call_isE2 {X : Cx} {a D dd : Addr} {oe : Obj} {pn : List (Addr × Obj)} (C : ExcC X.K D) (hz : Zc (.ref D) (some dd) oe) (hf : ∃ vs, oe.data = .fields vs) :
    CallR (X.suite a ((a, oe) :: pn)) (.builtin "isinstance") (fun xs H Q => (∃ fs, H dd = some (.xd fs)) ∧ rIsE X.K D a xs H Q) := by
  intro pins s σ H xs us Q I r h
  obtain ⟨⟨fs, hdd⟩, c, cv, b, rfl, hcv, e, q⟩ := h
  obtain ⟨u1, u2, rfl, r1, r2⟩ := vals2 r
  obtain rfl : u1 = Value.ref a := r1
  obtain rfl := hcv _ r2
  obtain ⟨hget, _⟩ := I.pin (a, oe) (List.mem_append.mpr (.inl List.mem_cons_self))
  obtain ⟨vs, hv⟩ := hf
  obtain ⟨mA, ⟨od, es, ep, hod, _⟩, _⟩ := I.hok dd _ hdd
  have J : PySem.W.InstAt s.heap a oe D (some od) := by
    obtain ⟨oc, oda, odt, osl⟩ := oe
    obtain ⟨h1, h2⟩ := hz
    dsimp only at h1 h2 hv
    subst h1 h2 hv
    exact ⟨hget, rfl, rfl, hod⟩
  have hcl : (PySem.W.clsIn X.K D).isSome = true := by
    obtain ⟨cd, hc, _⟩ := PySem.W.any_some C.hd
    rw [hc]
    rfl
  have KX : PySem.W.KitX X.K (.ref a) (.ref D) (fun h => PySem.W.InstAt h a oe D (some od)) := PySem.W.kitx_exc hcl C.hg C.hk C.hs C.ha C.hn C.ht C.hm
  exact PySem.W.kia_one KX I.kIn J e (fun z => nomatch z) fun tk => ⟨.bl b, H, I.kept (t' := tk) fun _ _ z => z, rfl, q⟩
end LG
/-! Sets of ints: set(list of ints), a set comprehension of ints. -/
namespace LG
open PySem PySem.Spec PyProof.Rows L2
/-- a set that was just made -/
abbrev oSet (w : World) : Obj := { cls := .type "set", dict := none, data := .set #[] 0 (.fresh 0 0 (!w.params.followText "set-order")) }
section
variable {P : Program} {w : World} {A : Around} {E : Value → Shared → Prop} {s : Shared}
theorem setR_nil {h : Heap} {a : Addr} (ho : h.get? a = some (oSet w)) : SetR w h a (fun _ => false) 0 := (setR_new_at (ns := []) ho).congr fun k => by simp
theorem oSet_in {h : Heap} : (h.push (oSet w)).get? h.objs.size = some (oSet w) := Heap.get?_push_size _ rfl
/-- set.__init__(S, l): the members of the list l, from left to right -/
theorem set_init_list {l : Addr} {items : Array Value} (ns : List Int) (hh : A.handled = none) (hl : s.heap.IsList l items) (hit : IntsAre items.toList ns) (hb : ns.length + 1 < scanBound)
    {R : Result → Shared → Prop} (h : ∀ (h' : Heap) (tk c : Nat), SetR w h' s.heap.objs.size (fun j => decide (j ∈ ns)) c → c ≤ ns.length → (∀ b o, s.heap.get? b = some o → h'.get? b = some o) → R (.ok (.ret .none)) { s with heap := h', toks := tk }) :
    codeAny (model P w) A (.call (.builtin "set.__init__") ⟨[.ref s.heap.objs.size, .ref l], []⟩) R { s with heap := s.heap.push (oSet w) } := by
  have hisz : items.size = ns.length := by
    rw [← Array.length_toList, IntsAre.length hit]
  have hT : Shared.TypeIs { s with heap := s.heap.push (oSet w) } (.ref s.heap.objs.size) "set" := ⟨_, oSet_in, rfl⟩
  have hi : s.heap.objs.size + 1 = (s.heap.push (oSet w)).objs.size := (Heap.size_push _ _).symm
  refine codeAny_call_builtin PySem.F.called_set.init.plain PySem.F.entry_set_init (check_set_init_1 hT ?_)
  obtain ⟨ol, hol, hcl, nl, hdl⟩ := hl
  obtain ⟨ocls, odict, odata, oslots⟩ := ol
  simp only at hcl hdl
  subst hcl
  subst hdl
  have hol' := Heap.get?_push_of_some (oSet w) hol
  have hl1 : (s.heap.push (oSet w)).IsList l items := ⟨_, hol', rfl, nl, rfl⟩
  have f1 := PySem.F.sub_list_set
  have f2 := PySem.F.sub_list_frozenset
  have f3 : (Value.type "list" == Value.type "dict") = false := by decide
  have hlS : l < s.heap.objs.size := Heap.lt_size hol
  unfold Builtin.«set.__init__» noKeywords Builtin.Frozenset.updateFrom
  generalize hPI : pyIter = PI
  wp_walk
  subst hPI
  refine wpAny_pyIter_list hl1 (wpAny_bind (wpAny_runValue ?_))
  have hh3 : A.in1.in1.handled = none := by simp [hh]
  have nI : l ≠ (s.heap.push (oSet w)).objs.size := by
    rw [← hi]
    exact Nat.ne_of_lt (Nat.lt_succ_of_lt hlS)
  have nS : s.heap.objs.size ∉ [(s.heap.push (oSet w)).objs.size, l] := by
    rw [← hi]
    simp only [List.mem_cons, List.not_mem_nil, or_false, not_or]
    exact ⟨Nat.ne_of_lt (Nat.lt_succ_self _), Nat.ne_of_gt hlS⟩
  have each : ∀ (i : Nat) (v : Value), items[i]? = some v → ∃ k t, ns[i]? = some k ∧ v = .int k t := by
    intro i v hv
    have hi : i < ns.length := by
      rw [← hisz]
      exact (Array.getElem?_eq_some_iff.mp hv).1
    obtain ⟨t, e⟩ := IntsAre.int_at hit i v (by rw [Array.getElem?_toList]; exact hv)
    refine ⟨ns[i], t, List.getElem?_eq_getElem hi, e.trans ?_⟩
    rw [List.getD_eq_getElem?_getD, List.getElem?_eq_getElem hi]
    rfl
  refine set_update_ints ((Walks.list hh3 _ l nI items).toS) s.heap.objs.size nS ns hisz hb each (items.size - 0) 0 _ (by omega) (Nat.zero_le _) ?hst ?hS0 ?hR
  case hst => exact ⟨⟨_, Heap.get?_push_size _ rfl, rfl, rfl⟩, hl1.push _⟩
  case hS0 =>
    have z : ((s.heap.push (oSet w)).push { cls := .type "list_iterator", data := .fields #[.ref l, .int 0 0] }).get? s.heap.objs.size = some (oSet w) := Heap.get?_push_of_some _ oSet_in
    exact ⟨0, Nat.le_refl 0, setR_new_at z⟩
  intro s' c hm hc hS
  obtain ⟨h', g', d', tk', os'⟩ := s'
  obtain rfl : g' = s.gens := hm.gens
  obtain rfl : d' = s.drawn := hm.drawn
  obtain rfl : os' = s.os := hm.os
  show wpAny _ _ _ _ _ _
  refine wpAny_pure ?_
  show wpAny _ _ (ret Value.none) _ _ _
  rw [hisz] at hc
  refine wpAny_pure (h h' tk' c hS hc fun b o e => hm.heap b o ?_ (Heap.get?_push_of_some _ (Heap.get?_push_of_some _ e)))
  have hb0 := Heap.lt_size e
  rw [← hi]
  simp only [List.mem_cons, List.not_mem_nil, or_false, not_or]
  exact ⟨Nat.ne_of_lt hb0, Nat.ne_of_lt (Nat.lt_succ_of_lt hb0)⟩
/-- set(l), l a list of ints -/
theorem call_set_list {l : Addr} {items : Array Value} (ns : List Int) {Q : Value → Shared → Prop} (hh : A.handled = none) (hl : s.heap.IsList l items) (hit : IntsAre items.toList ns) (hb : ns.length + 1 < scanBound)
    (h : ∀ (h' : Heap) (tk c : Nat), SetR w h' s.heap.objs.size (fun j => decide (j ∈ ns)) c → c ≤ ns.length → (∀ b o, s.heap.get? b = some o → h'.get? b = some o) → Q (.ref s.heap.objs.size) { s with heap := h', toks := tk }) :
    wpAny (model P w) A (call (.type "set") [.ref l]) Q E s := by
  obtain ⟨c, tl, hmro⟩ := PySem.F.called_set.mro
  have hmade := PySem.F.called_set.made
  have hsub := PySem.F.called_set.sub
  have h1 := PySem.F.called_set.notType
  have h2 := PySem.F.called_set.canCreate
  have hct := PySem.F.typeCall_set_1 (.ref l)
  have hli := PySem.F.called_set.init.lookup
  have hbi := PySem.F.called_set.init.bind (.ref s.heap.objs.size)
  refine wpAny_call (codeAny_of_tree ?_)
  show wpAny _ _ (callAny (.type "set") _) _ _ _
  refine wpAny_pure ⟨Code.quiet_builtin _ (by decide +kernel), codeAny_builtin PySem.F.entry_type_call ?_⟩
  rw [Around.under_plain (weight_type_call_type "set" [.ref l] []) rfl]
  repeat (any_goals (first | assumption | wp_step))
  refine codeAny_mono (code_set_led1 (.ref l) (E := E) (Q₁ := fun obj s₁ => obj = .ref s.heap.objs.size ∧ s₁ = { s with heap := s.heap.push (oSet w) }) ⟨rfl, rfl⟩) fun r s₁ hr => ?_
  match r, hr with
  | .error e, hr => exact hr
  | .ok (.ret obj), ⟨e1, e2⟩ =>
    subst e1 e2
    have hT : Shared.TypeIs { s with heap := s.heap.push (oSet w) } (.ref s.heap.objs.size) "set" := ⟨_, oSet_in, rfl⟩
    repeat (any_goals (first | assumption | wp_step))
    refine codeAny_mono (set_init_list (R := wants (fun r s₂ => r = .none ∧ ∃ h' tk c, s₂ = { s with heap := h', toks := tk } ∧ SetR w h' s.heap.objs.size (fun j => decide (j ∈ ns)) c ∧ c ≤ ns.length ∧
      (∀ b o, s.heap.get? b = some o → h'.get? b = some o)) E) ns (by simp [hh]) hl hit hb fun h' tk c a b e => ⟨rfl, h', tk, c, rfl, a, b, e⟩) fun r₂ s₂ hr₂ => ?_
    match r₂, hr₂ with
    | .ok (.ret r), ⟨e1, h', tk, c', e2, hS', hc', hk'⟩ =>
      subst e1 e2
      repeat (any_goals (first | assumption | wp_step))
      exact h _ _ _ hS' hc' hk'
    | .error e, hr₂ => exact hr₂
end
/-- as a rule: the members are the ints of the list -/
def rSetL (K : PySem.W.Frag) (w : World) : List V → Hp → VK → Prop := fun xs H Q => ∃ (l : Addr) (ns : List Int), xs = [.ref l] ∧ SqL K H l (ns.map V.int) ∧ ns.length ≤ 1000 ∧
  ∀ (p : Addr) (S : Int → Bool) (n : Nat), H p = none → (∀ k, S k = true ↔ k ∈ ns) → n ≤ ns.length → Q (.ref p) (upd H p (SetO w p S n))
theorem cr_setL {X : Cx} (hc : X.calm = true) : CallR X (.type "set") (rSetL X.K X.w) := by
  intro pins s σ H xs us Q I r h
  obtain ⟨l, ns, rfl, hs, hl, q⟩ := h
  obtain ⟨u, rfl, r1⟩ := vals1 r
  obtain rfl : u = Value.ref l := r1
  obtain ⟨its, rv, pl, _⟩ := I.list hs
  refine call_set_list ns (I.ok.hd hc) pl.isList (ints_of_vals rv) (by unfold scanBound; omega) fun h' tk c hS hcl hk => ?_
  exact ⟨.ref s.heap.objs.size, upd H s.heap.objs.size (SetO X.w s.heap.objs.size (fun j => decide (j ∈ ns)) c), I.laid hk (Nat.le_refl _) (setO_new hS), rfl, q _ _ _ (I.hok.fresh (Nat.le_refl _)) (fun k => decide_eq_true_iff) hcl⟩
end LG
/-! A set comprehension whose members are of one kind (ints; keys), and its loops. -/
namespace LG
open PySem PySem.Spec PyProof.Rows L2
/-- a kind of sets: how a member stands as a value, how such a set stands in the heap, and the two facts that are used of it -/
structure SetK1 (κ : Type) [DecidableEq κ] where
  toV : κ → V
  SO : Program → World → Addr → (κ → Bool) → Nat → HO
  fresh : ∀ {P : Program} {w : World} {H : Hp} {h : Heap} {a : Addr}, h.get? a = some (oSet w) → ObjOk P w H h a (SO P w a (fun _ => false) 0)
  add : ∀ {X : Cx} {pins : List (Addr × Obj)} {σ : L2.St} {H : Hp} {s : Shared} {E : Value → Shared → Prop} {D : Addr} {S : κ → Bool} {n : Nat} {y : κ} {u : Value} {Q : Value → Shared → Prop}, Inv X pins σ H s → H D = some (SO X.prog X.w D S n) → n + 1 < scanBound → L2.RelV (toV y) u →
    (∀ s', Inv X pins σ (upd H D (SO X.prog X.w D (fun j => S j || decide (j = y)) (if S y = true then n else n + 1))) s' → Q .none s') → wpAny (model X.prog X.w) X.A (call (.builtin "set.add") [.ref D, u]) Q E s
def setI : SetK1 Int where
  toV := V.int
  SO := fun _ w a S n => SetO w a S n
  fresh := fun h => setO_new (setR_nil h)
  add := fun {X pins σ H s E D S n y u Q} I hD room r h => by
    obtain ⟨t, rfl⟩ := r
    refine setR_add (setO_get I hD) room fun h' sb new => ?_
    have he : ∃ o, h'.get? D = some o := by
      obtain ⟨o, _, _, _, ho, _⟩ := id new
      exact ⟨o, ho⟩
    exact h _ (I.write (e := D) (t' := s.toks + 1) (by rw [hD]; trivial) (.inl rfl) (fun b o hb ho => (sb.2 b hb).trans ho) he (setO_new new))
section
variable {κ : Type} [DecidableEq κ] (k : SetK1 κ)
/-- {elt for target in iter if ..} -/
def tScK (P : Program) (w : World) (wi : TI) (g : TG) (tt : TT) (te : TE) (vs : List Nat) : TE := fun σ H Q => wi σ H fun J H1 => ∀ D, H1 D = none → ∃ W : Nat → Nat → Hp → Prop, (∃ m, W 0 m (upd H1 D (k.SO P w D (fun _ => false) 0))) ∧ ∀ i m H, W i m H →
  (J.stop i H ∧ Q (.ref D) H) ∨ (J.go i H ∧ ∃ Nx : Hp → Prop, (∀ H', Nx H' → ∃ m', m' < m ∧ W (i + 1) m' H') ∧ ∀ x H', J.yld i H x H' → g x (wipe σ vs) H' fun σ2 H2 => wipe σ2 vs = wipe σ vs ∧ tt σ2 H2 fun b H3 =>
    if b = true then te σ2 H3 fun y H4 => ∃ (c : κ) (S : κ → Bool) (n : Nat), y = k.toV c ∧ H4 D = some (k.SO P w D S n) ∧ n + 1 < scanBound ∧ Nx (upd H4 D (k.SO P w D (fun j => S j || decide (j = c)) (if S c = true then n else n + 1))) else Nx H3)
variable {X : Cx}
theorem pe_scK {elt tg iter : Expr} {ifs : List Expr} {scope : Scope} {own : List (PySem.Str × Nat)} {pos : Pos} {wi : TI} {g : TG} {tt : TT} {te : TE} (hc : X.calm = true) (hN : X.N.Nodup) (hi : PI X tg iter wi) (ok : BlkOk X.N X.env.scope scope own)
    (hg : ∀ (s : Shared) (H : Hp) (C : Addr) (cl : List (PySem.Str × Addr)) (fp : List Addr), PG (X.blk s H scope (compEnvC scope cl C X.env) fp) tg g)
    (ht : ∀ (s : Shared) (H : Hp) (C : Addr) (cl : List (PySem.Str × Addr)) (fp : List Addr), PTs (X.blk s H scope (compEnvC scope cl C X.env) fp) ifs tt)
    (he : ∀ (s : Shared) (H : Hp) (C : Addr) (cl : List (PySem.Str × Addr)) (fp : List Addr), PE (X.blk s H scope (compEnvC scope cl C X.env) fp) elt te)
    (hs : ∀ x, foldedSetIterable iter X.env x = pure x := by intro _; rfl) :
    PE X (.SetComp elt [⟨tg, iter, ifs, 0⟩] scope pos) (tScK k X.prog X.w wi g tt te (own.map (·.2))) := by
  constructor
  intro pins s σ H Q I h
  rw [PpSet.eval_SetComp]
  have hfree : ∀ y ∈ scope.names, y.2 = .free → ∃ c, X.env.cells.lookup y.1 = some c := fun y hy e => (ok.free y hy e).elim (fun z => I.ok.has _ (.inl z)) fun z => I.ok.has _ (.inr z)
  refine wpAny_comprehension_free rfl hs (closure_ok hfree) ok.kind (fun y hy e => by rw [ok.uniq y hy, e]) (thn (hi.run pins s σ H _ I h) fun xv s1 hx => thn hx fun itv s2 h2 => ?_)
  obtain ⟨it, fp, tn, J, H2, e, I2, T, st2, f2, q⟩ := h2
  subst e
  refine PpSet.newSet_ok (newEnv_comp ?_)
  have szD : H2 s2.heap.objs.size = none := I2.hok.fresh (Nat.le_refl _)
  generalize hD : s2.heap.objs.size = D at szD
  obtain ⟨W, ⟨m0, w0⟩, turn⟩ := q D szD
  generalize hO : k.SO X.prog X.w D (fun _ => false) 0 = o0 at w0
  generalize hs3 : ({ s2 with heap := s2.heap.push (oSet X.w) } : Shared) = s3
  have h3 : s3.heap = s2.heap.push (oSet X.w) := by
    rw [← hs3]
  have I3 : Inv X pins σ (upd H2 D o0) s3 := by
    rw [← hs3, ← hO]
    refine I2.laid (t' := s2.toks) (fun b o e => Heap.get?_push_of_some _ e) (Nat.le_of_eq hD) (k.fresh ?_)
    rw [← hD]
    exact oSet_in
  have sz : ∀ b ∈ fp, b < s2.heap.objs.size := fun b hb => by
    obtain ⟨o, e, _⟩ := T.obj _ _ st2 b hb
    exact Heap.lt_size e
  have f3 : ∀ b ∈ fp, FpOk X pins (upd H2 D o0) b ∧ b < s3.heap.objs.size := fun b hb => by
    have hlt := sz b hb
    refine ⟨⟨?_, (f2 b hb).2⟩, ?_⟩
    · rw [upd_ne (by rw [← hD]; exact Nat.ne_of_lt hlt)]
      exact (f2 b hb).1
    · rw [h3, Heap.size_push]
      exact Nat.lt_succ_of_lt hlt
  have st3 : tn 0 s3.heap := T.keep _ _ _ st2 fun b _ o e => by
    rw [h3]
    exact Heap.get?_push_of_some _ e
  have I4 := block_start I3 ok hN f3
  have pg := hg s3 (upd H2 D o0) s3.heap.objs.size (cellsFrom (s3.heap.objs.size + 1) scope.names (cloFrom X.env.cells scope.names [])) fp
  have pt := ht s3 (upd H2 D o0) s3.heap.objs.size (cellsFrom (s3.heap.objs.size + 1) scope.names (cloFrom X.env.cells scope.names [])) fp
  have pe := he s3 (upd H2 D o0) s3.heap.objs.size (cellsFrom (s3.heap.objs.size + 1) scope.names (cloFrom X.env.cells scope.names [])) fp
  show codeAny _ _ (.compStart (.SetComp elt [⟨tg, iter, ifs, 0⟩] scope pos) 0 (.ref it) (.ref D) (compEnvC scope (cellsFrom (s3.heap.objs.size + 1) scope.names (cloFrom X.env.cells scope.names [])) s3.heap.objs.size X.env)) _ { s3 with heap := pushCells (s3.heap.push { cls := .type "dict", data := .dict #[] }) scope.names }
  generalize hce : compEnvC scope (cellsFrom (s3.heap.objs.size + 1) scope.names (cloFrom X.env.cells scope.names [])) s3.heap.objs.size X.env = ce at I4 pg pt pe ⊢
  have cL : ce.locals = s3.heap.objs.size := by
    subst hce
    rfl
  have nfp : ∀ b ∈ fp, (upd H2 D o0) b = none := fun b hb => (f3 b hb).1.1
  generalize hH3 : upd H2 D o0 = H3 at I3 I4 pg pt pe w0 nfp f3
  generalize hs4 : ({ s3 with heap := pushCells (s3.heap.push { cls := .type "dict", data := .dict #[] }) scope.names } : Shared) = s4 at I4 ⊢
  have st4 : tn 0 s4.heap := T.keep _ _ _ st3 fun b _ o e => by
    rw [← hs4]
    exact pushCells_keeps _ _ _ _ (Heap.get?_push_of_some _ e)
  have stat : ∀ {σ' : L2.St} {H' : Hp} {s' : Shared}, Inv (X.blk s3 H3 scope ce fp) [] σ' H' s' → (∀ b ∈ fp, H' b = none) → ∀ b ∈ fp, FpOk (X.blk s3 H3 scope ce fp) [] H' b := fun I' hn b hb =>
    ⟨hn b hb, (I'.ok.exf b hb).1, I'.ok.exfs b hb, .inl hb, fun x c e => (I'.ok.exf b hb).2 x c e, fun p hp => absurd (show p ∈ ([] : List (Addr × Obj)) ++ [] from hp) (by simp)⟩
  refine (fun loop => PpSet.codeAny_compStart_set loop (T.self X.A 0 _ _ _ st4 loop)) ?_
  refine PpSet.compLoopS_any (fun n s' => ∃ i H', Inv (X.blk s3 H3 scope ce fp) [] (wipe σ (own.map (·.2))) H' s' ∧ tn i s'.heap ∧ (∀ b ∈ fp, H' b = none) ∧ W i n H') ?_ m0 ⟨0, H3, I4, st4, nfp, w0⟩
  rintro n s5 ⟨i, H5, I5, st5, n5, w5⟩
  rcases turn i n H5 w5 with ⟨stop, qq⟩ | ⟨go, Nx, hNx, step⟩
  · refine thnF (T.done (X.blk s3 H3 scope ce fp) rfl rfl rfl hc i [] s5 _ H5 (fun _ _ => False) I5 (stat I5 n5) st5 stop) fun r s6 ⟨hr, I6⟩ => ?_
    subst hr
    have I7 : Inv X pins σ H5 s6 := I3.call' (ch := fp) I6.os I6.base I6.hok I6.bare fun b hb => ⟨(f3 b hb).1.2.2.2.1, (f3 b hb).1.2.1, (f3 b hb).1.2.2.2.2.1, (f3 b hb).1.2.2.2.2.2⟩
    have nC : H5 s3.heap.objs.size = none := by
      rw [← cL]
      exact I6.free
    obtain ⟨m, hn, _⟩ := I6.loc
    have hn' : s6.heap.Ns s3.heap.objs.size m := by
      rw [← cL]
      exact hn
    obtain ⟨f0, f1, _, f3', f4, f5⟩ := I3.fpOk (Nat.le_refl _) nC
    refine ⟨m, hn', fun h'' sb => ?_⟩
    exact ⟨.ref D, H5, I7.turned (t' := s6.toks) (fun b o hb e => (sb.2 b hb).trans e) f0 f1 f3' f4 f5, rfl, qq⟩
  · refine thnF (T.item (X.blk s3 H3 scope ce fp) rfl rfl rfl hc i [] s5 _ H5 (fun _ _ => False) I5 (stat I5 n5) st5 go) fun r s6 ⟨u, hr, h6⟩ => ?_
    subst hr
    refine thnF h6 fun _ s7 ⟨x, H7, I7, r7, y7, st7, n7⟩ => ?_
    have I7' := I7.pinned (stat I7 n7) (T.obj _ _ st7)
    refine thnF (pg.run _ s7 _ H7 x u _ I7' r7 (step x H7 y7)) fun _ s8 ⟨σ8, H8, I8, hw8, q8⟩ => ?_
    refine thnF (pt.run _ s8 σ8 H8 _ I8 q8) fun b s9 ⟨H9, I9, q9⟩ => ?_
    have fin : ∀ {s' : Shared} {H' : Hp}, Inv (X.blk s3 H3 scope ce fp) ([] ++ pinsAt fp s7.heap) σ8 H' s' → Nx H' → ∃ m, m < n ∧ ∃ i H', Inv (X.blk s3 H3 scope ce fp) [] (wipe σ (own.map (·.2))) H' s' ∧ tn i s'.heap ∧ (∀ b ∈ fp, H' b = none) ∧ W i m H' := by
      intro s' H' I' nx
      obtain ⟨m', hm, w'⟩ := hNx H' nx
      have pin' : ∀ b ∈ fp, ∀ o, s7.heap.get? b = some o → s'.heap.get? b = some o ∧ H' b = none := fun b hb o e =>
        let z := I'.pin (b, o) (List.mem_append_right _ (List.mem_append_right _ (mem_pinsAt hb e)))
        ⟨z.1, z.2.1⟩
      have hl : (wipe σ (own.map (·.2))).length = σ8.length := by
        rw [← hw8, wipe_length]
      refine ⟨m', hm, i + 1, H', (I'.unpinned (pins := [])).weak hl (fun j v e => ?_), T.keep _ _ _ st7 fun b hb o e => (pin' b hb o e).1, fun b hb => ?_, w'⟩
      · rw [← hw8] at e
        exact (wipe_some e).1
      · obtain ⟨o, e, _⟩ := T.obj _ _ st7 b hb
        exact (pin' b hb o e).2
    cases b with
    | false =>
      simp only [Bool.false_eq_true, if_false] at q9 ⊢
      exact fin I9 q9
    | true =>
      simp only [if_true] at q9 ⊢
      refine thnF (pe.run _ s9 σ8 H9 _ I9 q9) fun z s10 ⟨yv, H10, I10, r10, cb, S0, n0, ey, hD10, hz10, nx⟩ => ?_
      subst ey
      exact k.add (X := X.blk s3 H3 scope ce fp) I10 hD10 hz10 r10 fun s11 I11 => fin I11 nx
/-- over a list that the block leaves as it is -/
theorem sc_list {P : Program} {w : World} {K : PySem.W.Frag} {a : Addr} {xs : List V} {g : TG} {tt : TT} {te : TE} {vs : List Nat} {σ : L2.St} {H1 : Hp} {D : Addr} {Qd : Hp → Prop} (Pv : Nat → Hp → Prop) (h0 : Pv 0 (upd H1 D (k.SO P w D (fun _ => false) 0)))
    (hl : ∀ i H, i ≤ xs.length → Pv i H → SqL K H a xs)
    (hs : ∀ i x H, xs[i]? = some x → Pv i H → g x (wipe σ vs) H fun σ2 H2 => wipe σ2 vs = wipe σ vs ∧ tt σ2 H2 fun b H3 =>
      if b = true then te σ2 H3 fun y H4 => ∃ (c : κ) (S : κ → Bool) (n : Nat), y = k.toV c ∧ H4 D = some (k.SO P w D S n) ∧ n + 1 < scanBound ∧ Pv (i + 1) (upd H4 D (k.SO P w D (fun j => S j || decide (j = c)) (if S c = true then n else n + 1))) else Pv (i + 1) H3) (hd : ∀ H, Pv xs.length H → Qd H) :
    ∃ W : Nat → Nat → Hp → Prop, (∃ m, W 0 m (upd H1 D (k.SO P w D (fun _ => false) 0))) ∧ ∀ i m H, W i m H →
      ((Itl K a).stop i H ∧ Qd H) ∨ ((Itl K a).go i H ∧ ∃ Nx : Hp → Prop, (∀ H', Nx H' → ∃ m', m' < m ∧ W (i + 1) m' H') ∧ ∀ x H', (Itl K a).yld i H x H' → g x (wipe σ vs) H' fun σ2 H2 => wipe σ2 vs = wipe σ vs ∧ tt σ2 H2 fun b H3 =>
        if b = true then te σ2 H3 fun y H4 => ∃ (c : κ) (S : κ → Bool) (n : Nat), y = k.toV c ∧ H4 D = some (k.SO P w D S n) ∧ n + 1 < scanBound ∧ Nx (upd H4 D (k.SO P w D (fun j => S j || decide (j = c)) (if S c = true then n else n + 1))) else Nx H3) := by
  refine ⟨fun i m H => m = xs.length - i ∧ i ≤ xs.length ∧ Pv i H, ⟨xs.length, by simp, Nat.zero_le _, h0⟩, ?_⟩
  rintro i m H ⟨rfl, hi, p⟩
  have q := hl i H hi p
  rcases Nat.lt_or_ge i xs.length with hlt | hge
  · refine .inr ⟨⟨xs, xs[i], q, by simp [hlt]⟩, Pv (i + 1), fun H' p' => ⟨xs.length - (i + 1), by omega, rfl, hlt, p'⟩, ?_⟩
    rintro x H' ⟨e, y⟩
    subst e
    exact hs i x _ (y xs q) p
  · obtain rfl : i = xs.length := by omega
    exact .inl ⟨⟨xs, q, Nat.le_refl _⟩, hd H p⟩
/-- over a tuple that the block leaves as it is -/
theorem sc_tupK {P : Program} {w : World} {K : PySem.W.Frag} {a : Addr} {xs : List V} {g : TG} {tt : TT} {te : TE} {vs : List Nat} {σ : L2.St} {H1 : Hp} {D : Addr} {Qd : Hp → Prop} (Pv : Nat → Hp → Prop) (h0 : Pv 0 (upd H1 D (k.SO P w D (fun _ => false) 0)))
    (hl : ∀ i H, i ≤ xs.length → Pv i H → SqT K H a xs)
    (hs : ∀ i x H, xs[i]? = some x → Pv i H → g x (wipe σ vs) H fun σ2 H2 => wipe σ2 vs = wipe σ vs ∧ tt σ2 H2 fun b H3 =>
      if b = true then te σ2 H3 fun y H4 => ∃ (c : κ) (S : κ → Bool) (n : Nat), y = k.toV c ∧ H4 D = some (k.SO P w D S n) ∧ n + 1 < scanBound ∧ Pv (i + 1) (upd H4 D (k.SO P w D (fun j => S j || decide (j = c)) (if S c = true then n else n + 1))) else Pv (i + 1) H3) (hd : ∀ H, Pv xs.length H → Qd H) :
    ∃ W : Nat → Nat → Hp → Prop, (∃ m, W 0 m (upd H1 D (k.SO P w D (fun _ => false) 0))) ∧ ∀ i m H, W i m H →
      ((Itt K a).stop i H ∧ Qd H) ∨ ((Itt K a).go i H ∧ ∃ Nx : Hp → Prop, (∀ H', Nx H' → ∃ m', m' < m ∧ W (i + 1) m' H') ∧ ∀ x H', (Itt K a).yld i H x H' → g x (wipe σ vs) H' fun σ2 H2 => wipe σ2 vs = wipe σ vs ∧ tt σ2 H2 fun b H3 =>
        if b = true then te σ2 H3 fun y H4 => ∃ (c : κ) (S : κ → Bool) (n : Nat), y = k.toV c ∧ H4 D = some (k.SO P w D S n) ∧ n + 1 < scanBound ∧ Nx (upd H4 D (k.SO P w D (fun j => S j || decide (j = c)) (if S c = true then n else n + 1))) else Nx H3) := by
  refine ⟨fun i m H => m = xs.length - i ∧ i ≤ xs.length ∧ Pv i H, ⟨xs.length, by simp, Nat.zero_le _, h0⟩, ?_⟩
  rintro i m H ⟨rfl, hi, p⟩
  have q := hl i H hi p
  rcases Nat.lt_or_ge i xs.length with hlt | hge
  · refine .inr ⟨⟨xs, xs[i], q, by simp [hlt]⟩, Pv (i + 1), fun H' p' => ⟨xs.length - (i + 1), by omega, rfl, hlt, p'⟩, ?_⟩
    rintro x H' ⟨e, y⟩
    subst e
    exact hs i x _ (y xs q) p
  · obtain rfl : i = xs.length := by omega
    exact .inl ⟨⟨xs, q, Nat.le_refl _⟩, hd H p⟩
end
end LG
/-! Calls by keywords alone, defs with a star, the law's entry where no guard is on the stack. -/
namespace LG
open PySem PySem.Spec PyProof.Rows L2

/-! ### a promise for any way to bind -/
def FnB (P : Program) (w : World) (K : PySem.W.Frag) (mg : Str → Option Value) (base : Heap) (k : Nat) (f : Addr) (fd : FuncData) (ps : List Str) (sp : Sp) : Prop :=
  ∀ (A : Around) (outer : List Env) (s : Shared) (H : Hp) (args : Args) (us : List Value) (vs : List V) (Q : VK) (E : XK),
    A.guards = some [] → Room k A → Env0 P w K mg base A outer s H → BindsTo s fd args (ps.zip us) → Vals vs us → vs.length = ps.length → sp vs H Q E →
    codeAny (model P w) A (.call (.ref f) args) (CR (L2.CX P w) outer P w H s Q E) s
section
variable {P : Program} {w : World} {K : PySem.W.Frag} {mg : Str → Option Value} {base : Heap} {k : Nat} {f : Addr} {sp : Sp} {x qual : Str} {st : Stmt} {fd : FuncData} {N ps : List Str}
theorem FnB.of (F : Fun K x qual st f fd) (S : FnScope N ps (defScope st))
    (body : ∀ (cdv : Value) (A : Around) (outer : List Env) (s : Shared) (H : Hp) (vs : List V) (Q : VK) (E : XK), A.guards = some [] →
      Room k (A.deeper (envOfC qual (defScope st) s.heap.objs.size f cdv)) → sp vs H Q E →
      ∃ t, PSs (cxOf (L2.CX P w) P w K mg base N qual (defScope st) f cdv A outer s H E) (defBody st) t ∧ t { nx := fun _ H' => Q .non H', rt := Q } (start N vs) H) :
    FnB P w K mg base (k + 1) f fd ps sp := by
  intro A outer s H args us vs Q E hg hr e0 hb rv hl hsp
  obtain ⟨oc, od, kV, doc, pm, an, cdv, ct, osl, rfl, lk, hcd⟩ := F.ex
  exact LamX.run_ofS lk hcd S hr e0 hb rv hl fun hr' => body cdv A outer s H vs Q E hg hr' hsp
theorem FnB.fn (F : FnB P w K mg base k f fd ps sp) (hb : Binds K fd ps []) (len : ∀ vs H Q E, sp vs H Q E → vs.length = ps.length) : Fn P w K mg base k f sp := by
  intro A outer s H us vs Q E hg hr e0 rv hsp
  have KX : K.In s.heap := e0.mod.kin.keeps fun b o e => (e0.bs b o e).1
  have hl := len _ _ _ _ hsp
  have hb' := hb s us KX (by rw [List.append_nil, ← rv.length]; exact hl)
  rw [List.append_nil] at hb'
  exact F A outer s H ⟨us, []⟩ us vs Q E hg hr e0 hb' rv hl hsp
/-- def f(*v): the arguments are a new tuple -/
theorem Fn.ofStar {pv : Str} (F : Fun K x qual st f fd) (S : FnScope N [pv] (defScope st)) (hb : ∀ us : List Value, bindArgs fd ⟨us, []⟩ = (newTuple us >>= fun t => pure [(pv, t)]))
    (body : ∀ (cdv : Value) (A : Around) (outer : List Env) (s : Shared) (H : Hp) (vs : List V) (Q : VK) (E : XK), A.guards = some [] →
      Room k (A.deeper (envOfC qual (defScope st) s.heap.objs.size f cdv)) → sp vs H Q E →
      ∃ t, PSs (cxOf (L2.CX P w) P w K mg base N qual (defScope st) f cdv A outer s H E) (defBody st) t ∧ t { nx := fun _ H' => Q .non H', rt := Q } (start N vs) H) :
    Fn P w K mg base (k + 1) f (fun vs H Q E => vs.length ≤ sizeLine ∧ ∀ p, H p = none → sp [V.ref p] (upd H p (.tup vs)) Q E) := by
  intro A outer s H us vs Q E hg hr e0 rv hsp
  obtain ⟨hz, hq⟩ := hsp
  obtain ⟨oc, od, kV, doc, pm, an, cdv, ct, osl, rfl, lk, hcd⟩ := F.ex
  have hn : H s.heap.objs.size = none := e0.hok.fresh (Nat.le_refl _)
  have hl : us.length ≤ sizeLine := by
    rw [← rv.length]
    exact hz
  refine StX.run_bnd lk hcd S hr e0 (G := fun xs H2 => ∃ p, H p = none ∧ xs = [V.ref p] ∧ H2 = upd H p (.tup vs)) (fun A' Ex Q' h => ?_) fun s2 H2 xs ⟨p, hp, ex, eH⟩ hr' => ?_
  · rw [hb us]
    refine wpAny_bind (wpAny_newTuple (wpAny_pure ?_) hl)
    have new : ObjOk P w (upd H s.heap.objs.size (.tup vs)) (s.heap.push ({ cls := .type "tuple", data := .seq us.toArray } : Obj)) s.heap.objs.size (.tup vs) := ⟨hz, us, rv, ⟨_, Heap.get?_push_size _ rfl, rfl, _, rfl⟩⟩
    have un := StX.un_laid (fs := frs outer) (s := s) (o := ({ cls := .type "tuple", data := .seq us.toArray } : Obj)) (u := .tup vs) hn
    exact h _ _ [V.ref s.heap.objs.size] [Value.ref s.heap.objs.size] (StX.env0_laid e0 new) un rfl (fun e s' => StX.cxUp outer s H _ _ E e s' un (fun b o q => Heap.get?_push_of_some _ q) rfl) (.cons rfl .nil) rfl ⟨_, hn, rfl, rfl⟩
  · subst ex eH
    exact body cdv A outer s2 _ _ Q E hg hr' (hq p hp)
end
section
variable {X : Cx} {k : Nat} {f : Addr} {fd : FuncData} {ps ks : List Str} {sp : Sp} {E : XK} {x : Str} {p pos : Pos} {kws : List Keyword} {tk : TA}
/-- f(k = v, ..): each parameter by its name, g puts the values in the parameters' order -/
theorem pe_fnK0 {g : {α : Type} → List α → List α} (F : FnB X.prog X.w X.K X.mg X.base k f fd ps sp) (g0 : X.A.guards = some []) (hr : Room k X.A) (hk : PySem.W.keepIn X.K (.ref f) = true) (hm : X.mg x = some (.ref f)) (hg : Gl X x) (hx : Passes (L2.CX X.prog X.w) X E)
    (hb : ∀ ws : List Value, ws.length = ks.length → bindArgs fd ⟨[], ks.zip ws⟩ = pure (ps.zip (g ws))) (hv : ∀ {vs : List V} {us : List Value}, Vals vs us → vs.length = ks.length → Vals (g vs) (g us) ∧ (g vs).length = ps.length) (hkw : PK X kws tk)
    (hall : (backToKw pos (keywordEach kws X.env)).all (·.1.isSome) = true := by rfl) (hks : (backToKw pos (keywordEach kws X.env)).filterMap (·.1) = ks := by rfl) (hdb : (x == ("__debug__" : Str)) = false := by decide)
    (hpl : ((backTo pos (starEach [] X.env)).any (·.1) || (backToKw pos (keywordEach kws X.env)).any (·.1.isNone)) = false := by rfl) :
    PE X (.Call (.Name x p) [] kws pos) (fun σ H Q => tk σ H fun zs H1 => zs.length = ks.length ∧ sp (g zs) H1 Q E) := by
  constructor
  intro pins s σ H Q I h
  refine wpAny_Call_Name_kw (ld_glob I hg hm (PySem.W.callWith_KW0 (h₀ := X.base) I.ok.mod.kin hk hall (thn (hkw.run pos pins s σ H _ I h) ?_) hpl) hdb)
  rintro ws s2 ⟨zs, H2, I2, rz, hl, q⟩
  refine ⟨I2.kIn, ?_⟩
  rw [hks]
  obtain ⟨rv, hl2⟩ := hv rz hl
  refine wpAny_call (codeAny_mono (F X.A X.stack s2 H2 ⟨[], ks.zip ws⟩ (g ws) (g zs) Q E g0 hr I2.env0 (.of_eq (hb ws (by rw [← rz.length]; exact hl))) rv hl2 q) fun res s' hq => ?_)
  match res, hq with
  | .error e, hq => exact hx pins σ H2 s2 e s' I2 hq
  | .ok (.ret u), hq => exact I2.after hq
  | .ok .next, hq => exact hq.elim
  | .ok .brk, hq => exact hq.elim
  | .ok .cont, hq => exact hq.elim
end

/-! ### the law's entry -/
/-- nothing is tracked but the script and the tables of code objects cs -/
theorem law_enter {P : Program} {w : World} {K : PySem.W.Frag} {mg mb : Str → Option Value} {k : Nat} {fa a : Addr} {cs : List (Addr × Addr)} {sp : Sp} {s₁ : Shared} {vs : List Value} {ns : List Int}
    (KX : K.In s₁.heap) (hns : s₁.heap.Ns mainGlobals mg) (hb : s₁.heap.Ns builtinsNs mb) (hbb : ∀ x : Str, x ≠ "__name__" → mb x = bootBuiltins x) (hlim : s₁.heap.NoLimit) (hg : s₁.gens = #[])
    (hT : ∀ p ∈ cs, s₁.heap.get? p.2 = some { cls := .none, data := .fields #[] }) (nT : ∀ p ∈ cs, K.lookup p.2 = none) (C : ∀ p ∈ cs, PySem.W.CodeHd s₁.heap p.1 p.2)
    (hbm : ∃ (bm : Addr) (ob : Obj), mg "__builtins__" = some (.ref bm) ∧ bm ≠ builtinsNs ∧ s₁.heap.get? bm = some ob ∧ ob.cls = .type "module" ∧ ob.dict = some builtinsNs ∧ ob.data = .plain)
    (ha : s₁.heap.get? a = some { cls := .type "list", data := .seq vs.toArray }) (hi : IntsAre vs ns) (hl : ns.length ≤ sizeLine) (hr : Room k callerA)
    (F : ∀ base : Heap, K.In base → base.Ns mainGlobals mg → (∀ p ∈ cs, LamX.TabB base mg p.1 p.2) → Fn P w K mg base k fa sp)
    (hsp : ∀ H : Hp, (∀ p ∈ cs, H p.2 = some (.tbl #[])) → SqL K H a (ns.map V.int) → sp [.ref a] H (fun v _ => v = .bl true) fun _ _ _ => False) :
    codeAny (model P w) callerA (.call (.ref fa) ⟨[.ref a], []⟩) (fun r s' => r = .ok (.ret (.bool true)) ∧ OldK s₁.heap s'.heap ∧ s'.os = s₁.os ∧ AllBare s'.gens) s₁ := by
  have isT : ∀ b : Addr, b ∈ cs.map (·.2) → s₁.heap.get? b = some { cls := .none, data := .fields #[] } := by
    intro b hb
    obtain ⟨p, hp, e⟩ := List.mem_map.mp hb
    exact e ▸ hT p hp
  have memT : ∀ p ∈ cs, p.2 ∈ cs.map (·.2) := fun p hp => List.mem_map.mpr ⟨p, hp, rfl⟩
  have aT : a ∉ cs.map (·.2) := by
    intro z
    have q := isT a z
    rw [ha] at q
    cases Option.some.inj q
  -- the abstract heap
  let scr : Option HO := if (K.lookup a).isSome then none else some (.frz { cls := .type "list", data := .seq vs.toArray } (.lst (ns.map V.int)))
  let H : Hp := fun b => if b ∈ cs.map (·.2) then some (.tbl #[]) else if b = a then scr else none
  have H_t : ∀ b, b ∈ cs.map (·.2) → H b = some (.tbl #[]) := fun b hb => if_pos hb
  have H_a : H a = scr := (if_neg aT).trans (if_pos rfl)
  have H_o : ∀ b, b ∉ cs.map (·.2) → b ≠ a → H b = none := fun b h1 h2 => (if_neg h1).trans (if_neg h2)
  have scr_cases : (scr = none ∧ ∃ o, K.lookup a = some o) ∨ (scr = some (.frz { cls := .type "list", data := .seq vs.toArray } (.lst (ns.map V.int))) ∧ K.lookup a = none) := by
    cases e : K.lookup a with
    | some o => exact .inl ⟨if_pos (by rw [e]; rfl), o, rfl⟩
    | none => exact .inr ⟨if_neg (by rw [e]; exact Bool.false_ne_true), rfl⟩
  have H_is : ∀ b, H b ≠ none → b ∈ cs.map (·.2) ∨ (b = a ∧ scr ≠ none) := by
    intro b hb
    by_cases h1 : b ∈ cs.map (·.2)
    · exact .inl h1
    · by_cases h2 : b = a
      · subst h2
        exact .inr ⟨rfl, fun z => hb (H_a.trans z)⟩
      · exact absurd (H_o b h1 h2) hb
  have lenV := hi.length
  have okA : ∀ (H' : Hp), ObjOk P w H' s₁.heap a (.frz { cls := .type "list", data := .seq vs.toArray } (.lst (ns.map V.int))) := fun H' => ⟨ha, by rw [List.length_map]; exact hl, vs, _, vals_ints hi, ha⟩
  have hok : HOk P w H s₁.heap := by
    intro b u e
    rcases H_is b (by rw [e]; exact Option.some_ne_none u) with hb | ⟨hb, hs⟩
    · have z := (H_t b hb).symm.trans e
      cases z
      exact isT b hb
    · subst hb
      rcases scr_cases with ⟨z, _⟩ | ⟨z, _⟩
      · exact absurd z hs
      · have z' := (H_a.trans z).symm.trans e
        cases z'
        exact okA H
  have seqA : SqL K H a (ns.map V.int) := by
    rcases scr_cases with ⟨_, o, hk⟩ | ⟨z, _⟩
    · have e := KX a o hk
      rw [ha] at e
      cases e
      exact .inr ⟨_, vs.toArray, _, hk, rfl, rfl, rfl, by rw [List.size_toArray, lenV]; exact hl, vals_ints hi⟩
    · exact .inl (.inr ⟨_, H_a.trans z⟩)
  -- what is neither a list nor a table is not tracked
  have off : ∀ {b : Addr} {o : Obj}, s₁.heap.get? b = some o → (∀ vs n, o.data ≠ .seq vs n) → o.data ≠ .fields #[] → H b = none := by
    intro b o e h1 h2
    refine H_o b (fun z => h2 ?_) fun z => ?_
    · have q := (isT b z).symm.trans e
      cases q
      rfl
    · subst z
      have q := ha.symm.trans e
      cases q
      exact h1 _ _ rfl
  have base_of : ∀ {b : Addr} {o : Obj}, s₁.heap.get? b = some o → H b = none → (hidT s₁.heap H).get? b = some o := fun e n => hidT_get e n
  have offD : ∀ {b : Addr} {o : Obj} {es : Array DictEntry} {ep : Nat}, s₁.heap.get? b = some o → o.data = .dict es ep → H b = none := fun e d => off e (fun vs n z => by rw [d] at z; cases z) fun z => by rw [d] at z; cases z
  have nsK : ∀ {b : Addr} {m : Str → Option Value}, s₁.heap.Ns b m → (hidT s₁.heap H).Ns b m := fun ⟨o, es, ep, e, d, r⟩ => ⟨o, es, ep, base_of e (offD e d), d, r⟩
  have hKb : K.In (hidT s₁.heap H) := by
    intro b o e
    refine base_of (KX b o e) ?_
    cases q : H b with
    | none => rfl
    | some u =>
      rcases H_is b (by rw [q]; exact Option.some_ne_none u) with hb | ⟨hb, hs⟩
      · obtain ⟨p, hp, ep⟩ := List.mem_map.mp hb
        rw [← ep, nT p hp] at e
        cases e
      · subst hb
        rcases scr_cases with ⟨z, _⟩ | ⟨_, z⟩
        · exact absurd z hs
        · rw [z] at e
          cases e
  have hM : Mod K mg (hidT s₁.heap H) := ⟨hKb, nsK hns, ⟨mb, nsK hb, hbb⟩, let ⟨mc, h1, h2⟩ := hlim; ⟨mc, nsK h1, h2⟩⟩
  have TB : ∀ p ∈ cs, LamX.TabB (hidT s₁.heap H) mg p.1 p.2 := by
    intro p hp
    have hTp := hT p hp
    have gP : mainGlobals ≠ p.2 := fun z => by
      obtain ⟨o, es, ep, e, hd, _⟩ := hns
      rw [z, hTp] at e
      cases e
      cases hd
    refine ⟨?_, ?_, gP⟩
    · obtain ⟨o, us, file, tf, flags, tg, inF, text, tt, e1, r1, r2, r3, rest⟩ := C p hp
      refine ⟨o, us, file, tf, flags, tg, inF, text, tt, base_of e1 (off e1 (fun vs n z => ?_) fun z => ?_), r1, r2, r3, rest⟩
      · rw [r2] at z
        cases z
      · rw [r2] at z
        cases z
        simp at r3
    · obtain ⟨bm, ob, b1, b2, b3, b4, b5, b6⟩ := hbm
      have nG : bm ≠ mainGlobals := fun q => by
        obtain ⟨o, es, ep, e, hd, _⟩ := hns
        rw [q, e] at b3
        cases b3
        rw [hd] at b6
        cases b6
      have nP : bm ≠ p.2 := fun q => by
        rw [q, hTp] at b3
        cases b3
        cases b6
      refine ⟨bm, ob, b1, b2, nG, nP, base_of b3 (off b3 (fun vs n z => ?_) fun z => ?_), b4, b5, b6⟩
      · rw [b6] at z
        cases z
      · rw [b6] at z
        cases z
  have e0 : Env0 P w K mg (hidT s₁.heap H) callerA [] s₁ H := ⟨rfl, hM, fun b o e => of_hidT e, Nat.le_of_eq (hidT_size _ _), trivial, fun b hb => absurd (show b ∈ ([] : List Addr) from hb) (by simp), hok, .of_eq hg⟩
  refine codeAny_mono (F _ hKb (nsK hns) TB callerA [] s₁ H [.ref a] [.ref a] _ _ rfl hr e0 (.cons rfl .nil) (hsp H (fun p hp => H_t _ (memT p hp)) seqA)) fun r s' h => ?_
  match r, h with
  | .error e, h =>
    obtain ⟨_, _, _, _, _, _, _, _, _, _, _, _, z⟩ := h
    exact z.elim
  | .ok .next, h => exact h.elim
  | .ok .brk, h => exact h.elim
  | .ok .cont, h => exact h.elim
  | .ok (.ret u), ⟨v, H', os, bare, un, hok', r', q⟩ =>
    have q' : v = .bl true := q
    subst q'
    obtain rfl : u = Value.bool true := r'
    have key : ∀ b o, b ∉ cs.map (·.2) → s₁.heap.get? b = some o → s'.heap.get? b = some o := by
      intro b o nb e
      by_cases hb : b = a
      · subst hb
        rcases scr_cases with ⟨z, _⟩ | ⟨z, _⟩
        · exact un.keep b o e (H_a.trans z) (by simp [frs]) (by simp)
        · have z2 := un.frzs b _ _ (H_a.trans z)
          obtain ⟨e2, _⟩ := hok' b _ z2
          rw [ha] at e
          cases e
          exact e2
      · exact un.keep b o e (H_o b nb hb) (by simp [frs]) (by simp)
    have grown : ∀ p ∈ cs, ∃ more : Array Value, s'.heap.get? p.2 = some { cls := .none, data := .fields more } := by
      intro p hp
      obtain ⟨more, z⟩ := un.tbls p.2 #[] (H_t _ (memT p hp))
      exact ⟨_, hok' p.2 _ z⟩
    refine ⟨rfl, ⟨fun b o e => ?_, fun b o e => ?_⟩, os, bare⟩
    · by_cases hb : b ∈ cs.map (·.2)
      · obtain ⟨p, hp, ep⟩ := List.mem_map.mp hb
        subst ep
        obtain ⟨more, hm⟩ := grown p hp
        have z := (hT p hp).symm.trans e
        cases z
        exact .inr (.inl ⟨((C p hp).tab (hT p hp)).isCodeTable, rfl, #[], more, rfl, by rw [Array.empty_append]; exact hm⟩)
      · exact .inl (key b o hb e)
    · by_cases hb : b ∈ cs.map (·.2)
      · obtain ⟨p, hp, ep⟩ := List.mem_map.mp hb
        subst ep
        obtain ⟨more, hm⟩ := grown p hp
        exact ⟨_, hm⟩
      · exact ⟨o, key b o hb e⟩
/-- what is to be shown of the law's def at the heap behind the top -/
def LawAt (l : PySem.W.OpenLaw) (w : World) (K : PySem.W.Frag) (k n : Nat) (mg : Str → Option Value) (fa : Addr) (h : Heap) : Prop :=
  ∃ (cs : List (Addr × Addr)) (sp : Sp), (∀ p ∈ cs, h.get? p.2 = some { cls := .none, data := .fields #[] }) ∧ (∀ p ∈ cs, K.lookup p.2 = none) ∧ (∀ p ∈ cs, PySem.W.CodeHd h p.1 p.2) ∧
    (∀ (H : Hp) (a : Addr) (ns : List Int), ns.length ≤ n → (∀ z ∈ ns, Builtin.Int.intBits z ≤ 1048576) → (∀ p ∈ cs, H p.2 = some (.tbl #[])) → SqL K H a (ns.map V.int) → sp [.ref a] H (fun v _ => v = .bl true) fun _ _ _ => False) ∧
    ∀ base : Heap, K.In base → base.Ns mainGlobals mg → (∀ p ∈ cs, LamX.TabB base mg p.1 p.2) → Fn l.prog w K mg base k fa sp
theorem walk_law {l : PySem.W.OpenLaw} {n k : Nat} {q : Program} {loose : List Str} {XP : (Str → Option Value) → Heap → Prop} {YP : World → Heap → Prop} {d : DefRec} {K : Params → PySem.W.Frag}
    (hn : l.most = some n) (hn2 : n ≤ sizeLine) (hdf : d.params.defaults = []) (hr : Room k callerA) (hY : ∀ (w : World) (h : Heap), YP w h → (K w.params).In h)
    (F : ∀ (w : World) (mg : Str → Option Value) (fa : Addr) (h : Heap), YP w h → (K w.params).In h → h.Ns mainGlobals mg → mg d.name = some (.ref fa) → LawAt l w (K w.params) k n mg fa h) :
    PySem.W.WalkO q loose XP YP l.row.toRowW d [] (fun f vs => PySem.call f vs) := by
  refine Att.attach_callB hn hdf ?_
  intro w s₀ s₁ mg mb fa o pm cd doc a vs ns G Y ho hd hcd hmg hobj hints hlen hbits hg
  obtain ⟨cs, sp, hT, nT, C, hsp, hF⟩ := F w mg fa _ Y (hY w _ Y) G.T.g hmg
  exact law_enter (hY w _ Y) G.T.g G.T.b G.T.builtins G.T.nolimit hg hT nT C G.T.bmain hobj hints (Nat.le_trans hlen hn2) hr hF fun H hH hS => hsp H a ns hlen hbits hH hS
end LG
/-! super().m(..) in a def of an own class. -/
namespace LG
open PySem PySem.Spec PyProof.Rows L2
/-! ### a body that asks which function runs -/
def PSsAt (X : Cx) (B st : List Stmt) (t : TS) : Prop := ∀ (pins : List (Addr × Obj)) (s : Shared) (σ : L2.St) (H : Hp) (D : Ends), Inv X pins σ H s → t D σ H → _root_.PySem.wpAt (model X.prog X.w) X.A (.func B X.env) (execs st X.env) (SP X pins D) X.xe s
section
variable {X : Cx} {B st rest : List Stmt} {b : Stmt} {t u : TS}
theorem pssAt_of (h : PSs X st t) : PSsAt X B st t := fun pins s σ H D I q => PySem.wpAt_of_wpAny (h.run pins s σ H D I q)
theorem pssAt_cons (h1 : PS X b t) (h2 : PSsAt X B rest u) : PSsAt X B (b :: rest) (tSeq t u) := fun pins s σ H D I q => by
  refine PySem.ks_wpAt_execs_cons (PySem.wpAt_of_wpAny (thn (h1.run pins s σ H { D with nx := u D } I q) fun f s1 z => ?_))
  match f, z with
  | .next, ⟨σ', H', I', q'⟩ => exact h2 pins s1 σ' H' D I' q'
  | .ret v, z => exact z
  | .brk, z => exact z
  | .cont, z => exact z
end
/-- the def at f of the class at D; its closure holds the class (it says super()) -/
structure FunS (K : PySem.W.Frag) (x qual : Str) (st : Stmt) (cc cda D f : Addr) : Prop where
  ex : ∃ (oc : Value) (od : Option Addr) (kV doc pm : Value) (an : Option Addr) (ct : Value) (osl : Array (Option Value)), K.lookup f = some ⟨oc, od, .func (PySem.W.ksFn x qual (defArgs st) (defBody st) (defScope st) .none kV doc pm an (.ref cda) ct cc), osl⟩
  code : PySem.W.codeIn K (.ref cda) qual = true
  file : ∃ (cl : Value) (cd : Option Addr) (vs : Array Value) (sl : Array (Option Value)) (tx : Str) (tf : Tok), K.lookup cda = some ⟨cl, cd, .fields vs, sl⟩ ∧ vs[2]? = some (.str tx tf)
  cell : ∃ (cl : Value) (cd : Option Addr) (sl : Array (Option Value)), K.lookup cc = some ⟨cl, cd, .cell (some (.ref D)), sl⟩
  cls : ∃ cd, PySem.W.clsIn K D = some cd
/-- an instance of C: super() in a def of D finds m at f2 -/
structure SupC (K : PySem.W.Frag) (C D f2 : Addr) (m : Str) : Prop where
  sub : PySem.W.mroIn K C (.ref D) = some true
  sup : PySem.W.ks_superIn K C D m = some (some (.ref f2))
  ty : PySem.W.typeIn K (.ref f2) = some (.type "function")
  any : PySem.W.nsIn K cStatics "thirdparty.any" = some none
  fn : PySem.W.fnIn K f2 = true
abbrev nfOf (x qual : Str) (st : Stmt) (cc cda : Addr) : NdefX.NF := ⟨x, qual, defArgs st, defBody st, defScope st, [("__class__", cc)], cda⟩
section
variable {P : Program} {w : World} {K : PySem.W.Frag} {mg : Str → Option Value} {base : Heap} {cc cda D f : Addr} {x qual : Str} {st : Stmt} {N ps : List Str} {k : Nat} {sp : Sp} {CX : CXT}
/-- a def that says super(), by its body -/
theorem FunS.ok (F : FunS K x qual st cc cda D f) (S : NdefX.NScope N ps ["__class__"] (defScope st)) (len : ∀ vs H Q E, sp vs H Q E → vs.length = ps.length)
    (hbody : ∀ (A : Around) (outer : List Env) (s : Shared) (H : Hp) (vs : List V) (Q : VK) (E : XK), Room k (A.deeper (NdefX.envF (nfOf x qual st cc cda) f s.heap.objs.size)) → sp vs H Q E →
      ∃ t, PSsAt (NdefX.ncx CX P w K mg base N (nfOf x qual st cc cda) f A outer s H E) (defBody st) (defBody st) t ∧ t { nx := fun _ H' => Q .non H', rt := Q } (NdefX.startF N vs [some (.ref D)]) H) :
    ∃ fd, FnOk P w K mg base CX (k + 1) f fd ps sp ∧ ∃ (oc : Value) (od : Option Addr) (kV doc pm : Value) (an : Option Addr) (ct : Value) (osl : Array (Option Value)), fd = PySem.W.ksFn x qual (defArgs st) (defBody st) (defScope st) .none kV doc pm an (.ref cda) ct cc ∧ K.lookup f = some ⟨oc, od, .func fd, osl⟩ := by
  obtain ⟨oc, od, kV, doc, pm, an, ct, osl, lk⟩ := F.ex
  refine ⟨_, ⟨len, fun A outer s H args us vs Q E hr e0 hb r hsp => ?_⟩, oc, od, kV, doc, pm, an, ct, osl, rfl, lk⟩
  have hl := len _ _ _ _ hsp
  have KX : K.In s.heap := e0.mod.kin.keeps fun b o e => (e0.bs b o e).1
  have lim : s.heap.NoLimit := e0.mod.nolimit.keeps fun b o e => (e0.bs b o e).1
  obtain ⟨cl, cd, sl, hcell⟩ := F.cell
  have C : NdefX.CellsAt [("__class__", cc)] ["__class__"] [some (V.ref D)] s.heap H := by
    have one : ∀ {y : Str} {c : Addr}, List.lookup y [(("__class__" : Str), cc)] = some c → y = "__class__" ∧ c = cc := fun {y c} h => by
      rw [List.lookup_cons] at h
      split at h
      · rename_i z
        cases h
        exact ⟨eq_of_beq z, rfl⟩
      · cases h
    have isC : s.heap.IsCell cc (some (.ref D)) := ⟨_, KX _ _ hcell, rfl⟩
    refine ⟨rfl, fun y c h => ?_, fun a b c h1 h2 => (one h1).1.trans (one h2).1.symm, fun i y hy => ?_⟩
    · obtain ⟨_, rfl⟩ := one h
      exact ⟨(e0.bs _ _ (e0.mod.kin _ _ hcell)).2, _, isC⟩
    · match i, hy with
      | 0, hy =>
        cases hy
        exact ⟨cc, by simp, fun v hv => by cases hv; exact ⟨.ref D, rfl, isC⟩⟩
  refine PySem.ks_codeAny_call_defAt (binds := ps.zip us) (body := defBody st) hr.depth (KX _ _ lk) rfl lim (PySem.W.codeRec_of KX F.code) rfl hb (fun y hy => S.nocell y hy) (fun ⟨n, _⟩ hy => S.par n (List.of_mem_zip hy).1) (fun h₁ hns kp => ?_) S.co S.gen S.kind
  obtain ⟨t, ht, hq⟩ := hbody A outer s H vs Q E (hr.deeper _) hsp
  have I : Inv (NdefX.ncx CX P w K mg base N (nfOf x qual st cc cda) f A outer s H E) [] (NdefX.startF N vs [some (.ref D)]) H { s with heap := h₁, toks := s.toks + (ps.zip us).length } := NdefX.inv_startN S hr.hd e0 hl r C hns kp
  refine PySem.ks_wpAt_mono (ht [] _ _ H _ I hq) (fun fl s' hs => ?_) fun e s' hs => hs
  have fin : ∀ {σ' : L2.St} {H' : Hp} {v : V} {u : Value}, Inv (NdefX.ncx CX P w K mg base N (nfOf x qual st cc cda) f A outer s H E) [] σ' H' s' → L2.RelV v u → Q v H' → CE outer P w H s Q u s' :=
    fun {σ' H' v u} J rv q => ⟨v, H', J.os, J.bare, J.base, J.hok, rv, q⟩
  match fl, hs with
  | .ret u, ⟨v, σ', H', J, rv, q⟩ => exact fin J rv q
  | .next, ⟨σ', H', J, q⟩ => exact fin (v := V.non) (u := Value.none) J rfl q
  | .brk, ⟨_, _, _, q⟩ => exact False.elim q
  | .cont, ⟨_, _, _, q⟩ => exact False.elim q
end
/-! ### super().m(e, ..) as a statement -/
def tSup (K : PySem.W.Frag) (D f2 : Addr) (m : Str) (sp : Sp) (E : XK) (t : TA) : TS := fun Dd σ H => ∃ a C dx fs, σ[0]? = some (some (.ref a)) ∧ H a = some (.ins C dx fs) ∧ SupC K C D f2 m ∧ t σ H fun vs H1 => sp (.ref a :: vs) H1 (fun _ H2 => Dd.nx σ H2) E
section
variable {P : Program} {w : World} {K : PySem.W.Frag} {mg : Str → Option Value} {base : Heap} {cc cda D f f2 : Addr} {x qual m : Str} {st : Stmt} {N : List Str} {k : Nat} {sp : Sp} {CX : CXT} {A : Around} {outer : List Env} {s0 : Shared} {H0 : Hp} {E0' E : XK}
  {e : Expr} {es : List Expr} {t : TA} {u : TS} {rest B : List Stmt} {p0 p1 p2 p3 p4 : Pos} {fd : FuncData} {ps : List Str} {n0 : Str}
theorem pssAt_super {X : Cx} {pl : Sem Bool} (hX : X = NdefX.ncx CX P w K mg base N (nfOf x qual st cc cda) f A outer s0 H0 E0') (F : FunS K x qual st cc cda D f) (F2 : FnOk P w K mg base CX k f2 fd ps sp) (hb : Binds K fd ps []) (hr : Room k X.A) (hx : Passes CX X E)
    (hz : mg "super" = none) (hks : (defScope st).names.lookup ("super" : Str) = some .globalImplicit) (hkc : (defScope st).names.lookup ("__class__" : Str) = some .free) (hkn : (defScope st).names.lookup n0 = some .local) (hn0 : N[0]? = some n0) (hkd : (defScope st).kind = .function)
    (har : ∃ ar, ((defArgs st).posonlyargs ++ (defArgs st).args).head? = some ar ∧ ar.arg = n0) (hfile : ∀ (vs : Array Value) (cl : Value) (cd : Option Addr) (sl : Array (Option Value)) (tx : Str) (tf : Tok), K.lookup cda = some ⟨cl, cd, .fields vs, sl⟩ → vs[2]? = some (.str tx tf) → ((P.main.file : Str) == tx) = true)
    (htop : (P.main.scope.names.lookup ("super" : Str)).isSome = false) (hm : (m == ("__class__" : Str)) = false) (ha : PA X (e :: es) t) (hrest : PSsAt X B rest u)
    (he : eval (.Call (.Attribute (.Call (.Name "super" p0) [] [] p1) m p2) (e :: es) [] p3) X.env = (do
      let ov ← attributeBase (.Call (.Name "super" p0) [] [] p1) m X.env (eval (.Call (.Name "super" p0) [] [] p1) X.env)
      standAt p2.atName
      let (f, first) ← holding [ov] (getMethod ov m pl)
      callWith p3 f first (backTo p3 (starEach (e :: es) X.env)) []) := by rfl)
    (hi : interactive X.env = false := by rfl) (hsw : swapsWith (.Call (.Attribute (.Call (.Name "super" p0) [] [] p1) m p2) (e :: es) [] p3) none p4.line X.env = pure false := by rfl)
    (hst : starEach (e :: es) X.env = (false, eval e X.env) :: starEach es X.env := by rfl) (hpl : (backTo p3 (starEach es X.env)).any (·.1) = false := by rfl) :
    PSsAt X B (.Expr (.Call (.Attribute (.Call (.Name "super" p0) [] [] p1) m p2) (e :: es) [] p3) p4 :: rest) (tSeq (tSup K D f2 m sp E t) u) := by
  subst hX
  intro pins s σ H Dd I ⟨a, C, dx, fs, hσ, hH, sc, q⟩
  obtain ⟨oc, od, kV, doc, pm, an, ct, osl, lk⟩ := F.ex
  obtain ⟨cl, cd, vs0, sl0, tx, tf, hcode, hvs⟩ := F.file
  obtain ⟨cl2, cd2, sl2, hcell⟩ := F.cell
  obtain ⟨cdD, hD⟩ := F.cls
  obtain ⟨ar, har1, har2⟩ := har
  obtain ⟨mb, hb1, hb2⟩ := I.mod.blt
  have KX := I.kIn
  obtain ⟨oD, hD1, hD2⟩ : ∃ oD, s.heap.get? D = some oD ∧ oD.data = .cls cdD := by
    unfold PySem.W.clsIn at hD
    split at hD
    · rename_i c d cd' sl ho
      cases hD
      exact ⟨_, KX _ _ ho, rfl⟩
    · cases hD
  obtain ⟨mA, O, _, _, _, _⟩ := ins_get I.hok hH
  obtain ⟨odx, J, _⟩ := O.look
  refine PySem.ks_wpAt_execs_cons (PySem.ks_wpAt_Expr_any (PySem.ks_wpAt_MethodCall (pl := pl) ?_ he) hi hsw)
  refine PySem.ks_wpAt_super_base (f := f) (cc := cda) hks hkc hm rfl (KX _ _ lk) rfl har1 rfl (KX _ _ hcode) rfl hvs (hfile _ _ _ _ _ _ hcode hvs) htop ?_
  refine PySem.W.ks_loadName_global hkd hks (Calls.loadGlobal_builtin (by rw [I.ok.glob]; exact I.mod.glob.keeps I.bk) hz (by rw [I.ok.blt]; exact hb1.keeps I.bk) ((hb2 _ (by decide)).trans (by kernel_rfl)) ⟨rfl, ?_⟩)
  refine wpAny_loadName_free hkd hkc (c := cc) (by show List.lookup _ [(("__class__" : Str), cc)] = some cc; simp) ⟨_, KX _ _ hcell, rfl⟩ ?_
  rw [har2]
  obtain ⟨mL, hnL, hlL⟩ := id I.loc
  obtain ⟨uL, rL, lL⟩ := hlL 0 n0 (.ref a) hn0 hσ (.inl hkn)
  obtain rfl : uL = Value.ref a := rL
  have hmL : mL n0 = some (.ref a) := by
    rcases lL with ⟨_, z⟩ | ⟨z, _⟩
    · exact z
    · rcases z with z | z
      · exact absurd (hkn.symm.trans z) (by simp)
      · exact absurd (hkn.symm.trans z) (by simp)
  refine wpAny_loadName_local hkd hkn hnL hmL ?_
  refine PySem.ks_wpAny_isType_cls hD1 hD2 ⟨rfl, ?_⟩
  refine PySem.ks_wpAny_call_super hD1 hD2 J.at_ J.cls (fun c e => ?_) (PySem.W.looks_mroIn KX sc.sub) (fun h' e k => ?_)
  · have z := J.no
    unfold PySem.W.notCls at z
    rw [e] at z
    exact Bool.noConfusion z
  have I1 := ClX.pin_new (t' := s.toks) I k (Nat.le_refl _) e (fun v z => by cases z)
  have KX1 := I1.kIn
  cases hc : PySem.W.clsIn K C with
  | none =>
    have z := sc.sup
    unfold PySem.W.ks_superIn at z
    rw [hc] at z
    cases z
  | some cdC =>
    have hsup := sc.sup
    unfold PySem.W.ks_superIn at hsup
    rw [hc] at hsup
    obtain ⟨of, hof, hofc⟩ : ∃ of, h'.get? f2 = some of ∧ of.cls = .type "function" := by
      have ht' : (K.lookup f2).map (·.cls) = some (.type "function") := sc.ty
      cases z : K.lookup f2 with
      | none => rw [z] at ht'; cases ht'
      | some of => rw [z] at ht'; exact ⟨of, KX1 _ _ z, Option.some.inj ht'⟩
    refine PySem.ks_wpAny_getMethod_super e (PySem.W.looks_opaque KX1 sc.any) (l₀ := cdC.mro) ?_ rfl KX1 hsup hof hofc (PySem.W.ks_ne KX J hc) hm ?_
    · exact fun A Q E s k q => wpAny_bind ((PySem.W.looks_clsIn KX1 hc) A _ E s k (wpAny_pure q))
    · have I2 := ClX.pin_new (o := PySem.W.methodObj (.ref f2) (.ref a)) (h' := h'.push { cls := .type "method", data := .fields #[.ref f2, .ref a] }) (t' := s.toks + 1) I1 (fun b o z => Heap.get?_push_of_some _ z) (Nat.le_refl _) (Heap.get?_push_at rfl rfl) (fun v z => by cases z)
      refine ClX.callwith_cm (C := a) (g := f2) I2 (ClX.base_none I1 (Nat.le_refl _)) sc.fn (thn (ha.run p3 _ _ σ H _ I2 q) fun us s3 ⟨vs, H3, I3, r, q3⟩ => ⟨⟨ClX.pin_at I3, I3.kIn⟩, ?_⟩) hst hpl
      have hl : (Value.ref a :: us).length = ps.length := by
        have z := F2.len _ _ _ _ q3
        rw [← z, List.length_cons, List.length_cons, r.length]
      have hbt := hb s3 (.ref a :: us) I3.kIn (by rw [List.append_nil]; exact hl)
      rw [List.append_nil] at hbt
      refine wpAny_call (PySem.W.method_call (ClX.pin_at I3) (codeAny_mono (F2.run _ _ s3 H3 ⟨.ref a :: us, []⟩ (.ref a :: us) (.ref a :: vs) _ E hr I3.env0 hbt (.cons rfl r) q3) fun res s4 hq => ?_))
      match res, hq with
      | .error er, hq => exact hx _ σ H3 s3 er s4 I3 hq
      | .ok (.ret v), hq =>
        obtain ⟨v', H4, I4, rv, q4⟩ := I3.after hq
        exact hrest pins s4 σ H4 Dd (ClX.unpin (ClX.unpin I4)) q4
      | .ok .next, hq => exact hq.elim
      | .ok .brk, hq => exact hq.elim
      | .ok .cont, hq => exact hq.elim
end
end LG
/-! Instances of own classes with a dict: repr(x), str(x) by own defs. -/
namespace LG
open PySem PySem.Spec PyProof.Rows L2
section
variable {X : Cx} {k : Nat} {C g : Addr} {sp : Sp} {E : XK} {pins : List (Addr × Obj)} {σ : L2.St} {H : Hp} {s : Shared}
/-- a promise kept one call deeper -/
theorem run_FnIn {Q : VK} {us : List Value} {vs : List V} (F : Fn X.prog X.w X.K X.mg X.base k g sp) (g0 : X.A.guards = some []) (hr : Room (k + 1) X.A) (hx : Passes (L2.CX X.prog X.w) X E) (I : Inv X pins σ H s) (r : Vals vs us) (h : sp vs H Q E) :
    wpAny (model X.prog X.w) X.A.in1 (call (.ref g) us) (EP X pins σ Q) X.xe s := by
  refine wpAny_call (codeAny_mono (F X.A.in1 X.stack s H us vs Q E g0 hr.in1 I.env0.in1 r h) fun res s' hq => ?_)
  match res, hq with
  | .error e, hq => exact hx pins σ H s e s' I hq
  | .ok (.ret u), hq => exact I.after hq
  | .ok .next, hq => exact hq.elim
  | .ok .brk, hq => exact hq.elim
  | .ok .cont, hq => exact hq.elim
/-- repr(x), x an instance of C -/
theorem call_reprOwn (hs : PySem.W.findIn X.K (.ref C) "__repr__" = some (some (.ref g))) (hf : PySem.W.isFn X.K (.ref g) = true) (F : Fn X.prog X.w X.K X.mg X.base k g sp) (g0 : X.A.guards = some []) (hr : Room (k + 1) X.A) (hx : Passes (L2.CX X.prog X.w) X E) :
    CallR X (.builtin "repr") (fun xs H Q => ∃ a dx fs, xs = [V.ref a] ∧ H a = some (.ins C dx fs) ∧ sp [.ref a] H (fun v H' => ∃ z, v = .str z ∧ Q v H') E) := by
  intro pins s σ H xs us Q I r h
  obtain ⟨a, dx, fs, rfl, hH, q⟩ := h
  obtain ⟨u, rfl, ru⟩ := vals1 r
  obtain rfl : u = Value.ref a := ru
  obtain ⟨mA, O, _, _, _, _⟩ := ins_get I.hok hH
  obtain ⟨odx, J, _⟩ := O.look
  obtain ⟨m, hF⟩ := I.fr
  refine PySem.W.repr_K hr.in1.units0 hF I.ok.mod.kin J hs hf (thn (run_FnIn (us := [.ref a]) (vs := [.ref a]) F g0 hr hx I (.cons rfl .nil) q) ?_)
  rintro v s' ⟨w', H', I', rv, z, rfl, q'⟩
  obtain ⟨t, rfl⟩ := rv
  exact ⟨.str z, H', I', ⟨t, rfl⟩, q'⟩
/-- .. two calls deeper -/
theorem run_FnIn2 {Q : VK} {us : List Value} {vs : List V} (F : Fn X.prog X.w X.K X.mg X.base k g sp) (g0 : X.A.guards = some []) (hr : Room (k + 2) X.A) (hx : Passes (L2.CX X.prog X.w) X E) (I : Inv X pins σ H s) (r : Vals vs us) (h : sp vs H Q E) :
    wpAny (model X.prog X.w) X.A.in1.in1 (call (.ref g) us) (EP X pins σ Q) X.xe s := by
  refine wpAny_call (codeAny_mono (F X.A.in1.in1 X.stack s H us vs Q E g0 hr.in1.in1 I.env0.in1.in1 r h) fun res s' hq => ?_)
  match res, hq with
  | .error e, hq => exact hx pins σ H s e s' I hq
  | .ok (.ret u), hq => exact I.after hq
  | .ok .next, hq => exact hq.elim
  | .ok .brk, hq => exact hq.elim
  | .ok .cont, hq => exact hq.elim
/-- str(x), x an instance of C -/
theorem call_strOwn (hs : PySem.W.findIn X.K (.ref C) "__str__" = some (some (.ref g))) (hf : PySem.W.isFn X.K (.ref g) = true) (F : Fn X.prog X.w X.K X.mg X.base k g sp) (g0 : X.A.guards = some []) (hr : Room (k + 2) X.A) (hx : Passes (L2.CX X.prog X.w) X E) :
    CallR X (.type "str") (fun xs H Q => ∃ a dx fs, xs = [V.ref a] ∧ H a = some (.ins C dx fs) ∧ sp [.ref a] H (fun v H' => ∃ z, v = .str z ∧ Q v H') E) := by
  intro pins s σ H xs us Q I r h
  obtain ⟨a, dx, fs, rfl, hH, q⟩ := h
  obtain ⟨u, rfl, ru⟩ := vals1 r
  obtain rfl : u = Value.ref a := ru
  obtain ⟨mA, O, _, _, _, _⟩ := ins_get I.hok hH
  obtain ⟨odx, J, _⟩ := O.look
  refine PySem.W.kso_call hr.in1.in1.units0 I.kIn J hs hf (thn (run_FnIn2 (us := [.ref a]) (vs := [.ref a]) F g0 hr hx I (.cons rfl .nil) q) ?_)
  rintro v s' ⟨w', H', I', rv, z, rfl, q'⟩
  obtain ⟨t, rfl⟩ := rv
  exact ⟨.str z, H', I', ⟨t, rfl⟩, q'⟩
end
end LG
/-! x == y, x an instance whose class has an own __eq__. -/
namespace LG
open PySem PySem.Spec PyProof.Rows L2
section
variable {X : Cx} {k : Nat} {C g : Addr} {sp : Sp} {E : XK} {pins : List (Addr × Obj)} {σ : L2.St} {H : Hp} {s : Shared}
theorem run_Fn0 {Q : VK} {us : List Value} {vs : List V} (F : Fn X.prog X.w X.K X.mg X.base k g sp) (g0 : X.A.guards = some []) (hr : Room k X.A) (hx : Passes (L2.CX X.prog X.w) X E) (I : Inv X pins σ H s) (r : Vals vs us) (h : sp vs H Q E) :
    wpAny (model X.prog X.w) X.A (call (.ref g) us) (EP X pins σ Q) X.xe s := by
  refine wpAny_call (codeAny_mono (F X.A X.stack s H us vs Q E g0 hr I.env0 r h) fun res s' hq => ?_)
  match res, hq with
  | .error e, hq => exact hx pins σ H s e s' I hq
  | .ok (.ret u), hq => exact I.after hq
  | .ok .next, hq => exact hq.elim
  | .ok .brk, hq => exact hq.elim
  | .ok .cont, hq => exact hq.elim
theorem looks_ty {y : V} {u tb : Value} (I : Inv X pins σ H s) (ry : RelV y u) (ty : TyX X.K H y tb) : PySem.W.Looks (model X.prog X.w) s.heap (typeOf u) tb := by
  obtain ⟨P, KX, hP, _⟩ := kit_of I ry ty
  exact KX.ty _ _ I.kIn hP
/-- x == y, y of a class that is not below x's -/
def rEqOwn (K : PySem.W.Frag) (C : Addr) (sp : Sp) (E : XK) : R2 := fun x y H Q => ∃ a dx fs tb, x = .ref a ∧ H a = some (.ins C dx fs) ∧ TyX K H y tb ∧ PySem.W.notFirst K C tb = true ∧ sp [x, y] H (fun v H' => ∃ b, v = .bl b ∧ Q v H') E
theorem op_eqOwn (hs : PySem.W.findIn X.K (.ref C) "__eq__" = some (some (.ref g))) (hf : PySem.W.isFn X.K (.ref g) = true) (F : Fn X.prog X.w X.K X.mg X.base k g sp) (g0 : X.A.guards = some []) (hr : Room k X.A) (hx : Passes (L2.CX X.prog X.w) X E) : OpR X (compareOp .Eq) (rEqOwn X.K C sp E) := by
  intro pins s σ H x y v u Q I rx ry h
  obtain ⟨a, dx, fs, tb, rfl, hH, ty, hn, q⟩ := h
  obtain rfl : v = Value.ref a := rx
  obtain ⟨mA, O, _, _, _, _⟩ := ins_get I.hok hH
  obtain ⟨odx, J, _⟩ := O.look
  obtain ⟨m, hF⟩ := I.fr
  show wpAny _ _ (richCompare .Eq (.ref a) u) _ _ _
  refine PySem.W.cmp_K (op := .Eq) (tb := tb) hr.units0 hF I.ok.mod.kin J (looks_ty I ry ty) hn hs hf (thn (run_Fn0 (us := [.ref a, u]) (vs := [.ref a, y]) F g0 hr hx I (.cons rfl (.cons ry .nil)) q) ?_)
  rintro v s' ⟨w', H', I', rv, b, rfl, q'⟩
  obtain rfl : v = Value.bool b := rv
  exact ⟨.bl b, H', I', rfl, q'⟩
end
end LG
/-! x != y, x an instance whose class has an own __eq__ and no own __ne__. -/
namespace LG
open PySem PySem.Spec PyProof.Rows L2
section
variable {prog : Program} {w : World} {A : Around} {E : Value → Shared → Prop} {s : Shared} {K : PySem.W.Frag} {x C f : Addr} {ox : Obj} {od : Option Obj} {u tb : Value}
theorem ne_entry {Q : Fin → Shared → Prop} (X : K.In s.heap) (I : PySem.W.InstAt s.heap x ox C od) (hs : PySem.W.findIn K (.ref C) "__eq__" = some (some (.ref f))) (hf : PySem.W.isFn K (.ref f) = true) (hu : A.units < cLine)
    (h : wpAny (model prog w) A (call (.ref f) [.ref x, u]) (fun v s' => ∃ b, v = .bool b ∧ Q (.done (.ret (.bool (!b)))) s') E s) : wpAny (model prog w) A (Builtin.«object.__ne__» ⟨[.ref x, u], []⟩) Q E s := by
  unfold Builtin.«object.__ne__»
  have key : wpAny (model prog w) A (callSpecialIfBound? (.ref x) "__eq__" [u]) (fun r s' => ∃ b, r = some (.bool b) ∧ Q (.done (.ret (.bool (!b)))) s') E s := PySem.W.ifBound_K X I hs hf (wpAny_mono h (fun v s' ⟨b, e, q⟩ => ⟨b, by rw [e], q⟩) fun _ _ z => z)
  refine wpAny_bind (wpAny_pure ?_)
  dsimp only
  refine wpAny_bind (wpAny_cRoomFor hu ?_)
  refine wpAny_bind (wpAny_mono key (fun r s' hr => ?_) fun _ _ z => z)
  obtain ⟨b, rfl, q⟩ := hr
  repeat wp_step
  exact q
/-- (x).__ne__(u), asked by a comparison -/
theorem tryNe {Q : Option Value → Shared → Prop} (X : K.In s.heap) (I : PySem.W.InstAt s.heap x ox C od) (hm : PySem.W.mroIn K C (.type "object") = some true) (hne : PySem.W.findIn K (.ref C) "__ne__" = some (some (.builtin "object.__ne__"))) (hs : PySem.W.findIn K (.ref C) "__eq__" = some (some (.ref f)))
    (hf : PySem.W.isFn K (.ref f) = true) (hu : A.in1.units < cLine) (h : wpAny (model prog w) A.in1 (call (.ref f) [.ref x, u]) (fun v s' => ∃ b, v = .bool b ∧ Q (some (.bool (!b))) s') E s) : wpAny (model prog w) A (tryCompare (.ref x) "__ne__" u) Q E s := by
  have body : wpAny (model prog w) A (call (.builtin "object.__ne__") [.ref x, u]) (fun v s' => ∃ b, v = .bool b ∧ Q (some v) s') E s :=
    wpAny_call (codeAny_call_builtin F.cmp_object.ne.plain F.cmpEntry_ne (PySem.W.check_slot F.cmpKind_ne F.cmpSplit_ne (I.type.andThen (PySem.W.looks_mroIn X hm)) (F.cmpArgs_ne _ _) (ne_entry X I hs hf hu (wpAny_mono h (fun v s' ⟨b, e, q⟩ => ⟨b, e, ⟨!b, rfl, q⟩⟩) fun _ _ z => z))))
  have fin : wpAny (model prog w) A (call (.builtin "object.__ne__") ([.ref x] ++ [u]) >>= fun v => pure (some v)) (fun r s' => ∃ b, r = some (.bool b) ∧ Q r s') E s := wpAny_bind (wpAny_mono body (fun v s' ⟨b, e, q⟩ => wpAny_pure ⟨b, by rw [e], q⟩) fun _ _ z => z)
  unfold tryCompare
  refine wpAny_bind (wpAny_mono (Q := fun r s' => ∃ b, r = some (.bool b) ∧ Q r s') ?_ (fun r s' hr => ?_) fun _ _ z => z)
  · simp only [callSpecialIfBound?, bindSpecialIfBound?]
    refine wpAny_holding (wpAny_bind (wpAny_bind (wpAny_bind (I.type.here ((PySem.W.looks_findIn X hne).here ?_)))))
    refine wpAny_bind (wpAny_askSetting (wpAny_ite ?_))
    split
    · exact wpAny_bind (wpAny_of_eq (F.cmp_object.ne.bind _) (wpAny_pure (by exact fin)))
    · exact wpAny_tryCatch (wpAny_bind (wpAny_of_eq (F.cmp_object.ne.bind _) (wpAny_pure (by exact fin))))
  · obtain ⟨b, rfl, q⟩ := hr
    exact wpAny_pure q
theorem rc_ne {Q : Value → Shared → Prop} (X : K.In s.heap) (I : PySem.W.InstAt s.heap x ox C od) (hb : PySem.W.Looks (model prog w) s.heap (typeOf u) tb) (hn : PySem.W.notFirst K C tb = true) (hm : PySem.W.mroIn K C (.type "object") = some true)
    (hne : PySem.W.findIn K (.ref C) "__ne__" = some (some (.builtin "object.__ne__"))) (hs : PySem.W.findIn K (.ref C) "__eq__" = some (some (.ref f))) (hf : PySem.W.isFn K (.ref f) = true) (hu : A.units < cLine) (hu1 : A.in1.units < cLine)
    (h : wpAny (model prog w) A.in1 (call (.ref f) [.ref x, u]) (fun v s' => ∃ b, v = .bool b ∧ Q (.bool (!b)) s') E s) : wpAny (model prog w) A (richCompare .NotEq (.ref x) u) Q E s := by
  have one : wpAny (model prog w) A (tryCompare (.ref x) "__ne__" u) (fun r s' => ∃ v, r = some v ∧ Q v s') E s := tryNe X I hm hne hs hf hu1 (wpAny_mono h (fun v s' ⟨b, e, q⟩ => ⟨b, e, ⟨_, rfl, q⟩⟩) fun _ _ z => z)
  unfold richCompare
  simp only [PySem.oneThing_ref]
  refine wpAny_holding (wpAny_bind (wpAny_cRoomFor hu ?_))
  refine wpAny_bind (I.type.here (wpAny_bind (hb.here ?_)))
  split
  · rename_i q
    have e : PySem.W.subIn K tb (.ref C) = some false := by
      rcases Bool.or_eq_true_iff.mp hn with e | e
      · rw [beq_iff_eq.mp e] at q
        simp at q
      · exact beq_iff_eq.mp e
    refine wpAny_bind ((PySem.W.looks_subIn X e).here ?_)
    simp only [Bool.false_eq_true, if_false]
    refine wpAny_bind (wpAny_mono one (fun r s' z => ?_) fun _ _ e => e)
    obtain ⟨v, rfl, hq⟩ := z
    exact wpAny_pure hq
  · refine wpAny_bind (wpAny_pure ?_)
    simp only [Bool.false_eq_true, if_false]
    refine wpAny_bind (wpAny_mono one (fun r s' z => ?_) fun _ _ e => e)
    obtain ⟨v, rfl, hq⟩ := z
    exact wpAny_pure hq
end
section
variable {X : Cx} {k : Nat} {C g : Addr} {sp : Sp} {E : XK}
/-- x != y -/
def rNeOwn (K : PySem.W.Frag) (C : Addr) (sp : Sp) (E : XK) : R2 := fun x y H Q => ∃ a dx fs tb, x = .ref a ∧ H a = some (.ins C dx fs) ∧ TyX K H y tb ∧ PySem.W.notFirst K C tb = true ∧ sp [x, y] H (fun v H' => ∃ b, v = .bl b ∧ Q (.bl (!b)) H') E
theorem op_neOwn (hm : PySem.W.mroIn X.K C (.type "object") = some true) (hne : PySem.W.findIn X.K (.ref C) "__ne__" = some (some (.builtin "object.__ne__"))) (hs : PySem.W.findIn X.K (.ref C) "__eq__" = some (some (.ref g))) (hf : PySem.W.isFn X.K (.ref g) = true)
    (F : Fn X.prog X.w X.K X.mg X.base k g sp) (g0 : X.A.guards = some []) (hr : Room (k + 1) X.A) (hx : Passes (L2.CX X.prog X.w) X E) : OpR X (compareOp .NotEq) (rNeOwn X.K C sp E) := by
  intro pins s σ H x y v u Q I rx ry h
  obtain ⟨a, dx, fs, tb, rfl, hH, ty, hn, q⟩ := h
  obtain rfl : v = Value.ref a := rx
  obtain ⟨mA, O, _, _, _, _⟩ := ins_get I.hok hH
  obtain ⟨odx, J, _⟩ := O.look
  show wpAny _ _ (richCompare .NotEq (.ref a) u) _ _ _
  refine rc_ne I.kIn J (looks_ty I ry ty) hn hm hne hs hf hr.units0 hr.in1.units0 (thn (run_FnIn (us := [.ref a, u]) (vs := [.ref a, y]) F g0 hr hx I (.cons rfl (.cons ry .nil)) q) ?_)
  rintro v s' ⟨w', H', I', rv, b, rfl, q'⟩
  obtain rfl : v = Value.bool b := rv
  exact ⟨b, rfl, .bl (!b), H', I', rfl, q'⟩
end
end LG
/-! x & y, x | y: two instances of own classes that have one own def for the sign. -/
namespace PySem.W
open PySem PySem.Calls PyProof.Rows
section
variable {prog : Program} {w : World} {A : Around} {E : Value → Shared → Prop} {s : Shared} {K : Frag} {x C C2 L f f' : Addr} {h₀ : Heap} {m : Str → Option Value} {ox : Obj} {od : Option Obj}
theorem binop_CC {op : Operator} {b : Value} {rc rc' : Option Value} {Q : Value → Shared → Prop} (F : Fr h₀ L s.heap m) (X₀ : K.In h₀) (I : InstAt s.heap x ox C od) (hb : Looks (model prog w) s.heap (typeOf b) (.ref C2)) (hne0 : C ≠ C2) (hc : selfFirst K C = true) (hc2 : selfFirst K C2 = true)
    (hs : findIn K (.ref C) (PySem.dunder op.info.2) = some (some (.ref f))) (hf : isFn K (.ref f) = true) (hr : findIn K (.ref C) (dunderR op.info.2) = some rc) (hp : rc = none ∨ ∃ g : Addr, rc = some (.ref g))
    (hs2 : findIn K (.ref C2) (PySem.dunder op.info.2) = some (some (.ref f'))) (hr2 : findIn K (.ref C2) (dunderR op.info.2) = some rc') (hp2 : rc' = none ∨ ∃ g : Addr, rc' = some (.ref g)) (hsub : subIn K (.ref C2) (.ref C) = some false)
    (h : wpAny (model prog w) A (call (.ref f) [.ref x, b]) (CmpBack Q) E s) : wpAny (model prog w) A (binaryOp op (.ref x) b) Q E s := by
  have X := X₀.keeps F.keep
  obtain ⟨cd, rest, hcd, hm⟩ := ksp_first hc
  obtain ⟨cd2, rest2, hcd2, hm2⟩ := ksp_first hc2
  rcases hi : op.info with ⟨sym, nm'⟩
  rw [hi] at hs hr hs2 hr2
  dsimp only at hs hr hs2 hr2
  have one := ksp_try X I hs hf h
  obtain ⟨hh, g, d, tt, os⟩ := s
  have L1 : Looks (model prog w) hh (typeOf (.ref x)) (.ref C) := I.type
  have L2 : Looks (model prog w) hh (typeOf b) (.ref C2) := hb
  have L3 : Looks (model prog w) hh (fillsNumberSlot (.ref C) nm') true := fills_K X hcd hm hs
  have L4 : Looks (model prog w) hh (fillsNumberSlot (.ref C2) nm') true := fills_K X hcd2 hm2 hs2
  have L5 : Looks (model prog w) hh (isSubtype (.ref C2) (.ref C)) false := looks_subIn X hsub
  have L6 : Looks (model prog w) hh (numberSlotInPython (.ref C) nm') true := ksp_inPy X hs hr hp
  have L7 : Looks (model prog w) hh (numberSlotInPython (.ref C2) nm') true := ksp_inPy X hs2 hr2 hp2
  have hne : (Value.ref C == Value.ref C2) = false := Bool.eq_false_iff.mpr fun q => hne0 (Value.ref.inj (beq_iff_eq.mp q))
  simp only [binaryOp, hi]
  refine wpAny_holding (wpAny_bind ?_)
  unfold binaryOp1
  refine wpAny_bind (L1.at (wpAny_bind (L2.at (wpAny_bind (L3.at ?_)))))
  simp only [hne, Bool.false_eq_true, if_false]
  ksp_lk
  refine wpAny_mono one (fun r s' hr' => ?_) fun _ _ e => e
  obtain ⟨v, rfl, hq⟩ := hr'
  ksp_lk
  exact hq
end
end PySem.W
namespace LG
open PySem PySem.Spec PyProof.Rows L2
/-- what a class must have for the sign nm: its own def at g, no reflected one in C's way -/
structure BinC (K : PySem.W.Frag) (C g : Addr) (nm : String) : Prop where
  first : PySem.W.selfFirst K C = true
  at_ : PySem.W.findIn K (.ref C) (PySem.dunder nm) = some (some (.ref g))
  refl : PySem.W.findIn K (.ref C) (dunderR nm) = some none
section
variable {X : Cx} {k : Nat} {g : Addr} {sp : Sp} {E : XK}
/-- x op y, both of classes whose def for it is at g -/
def rBinOwn (K : PySem.W.Frag) (g : Addr) (nm : String) (sp : Sp) (E : XK) : R2 := fun x y H Q => ∃ a C dx fs b C2 dy gs, x = .ref a ∧ H a = some (.ins C dx fs) ∧ y = .ref b ∧ H b = some (.ins C2 dy gs) ∧ BinC K C g nm ∧ BinC K C2 g nm ∧ (C = C2 ∨ PySem.W.subIn K (.ref C2) (.ref C) = some false) ∧ sp [x, y] H (fun v H' => ∃ c, v = .ref c ∧ Q v H') E
theorem op_binOwn {op : Operator} (hf : PySem.W.isFn X.K (.ref g) = true) (F : Fn X.prog X.w X.K X.mg X.base k g sp) (g0 : X.A.guards = some []) (hr : Room k X.A) (hx : Passes (L2.CX X.prog X.w) X E) : OpR X (binaryOp op) (rBinOwn X.K g op.info.2 sp E) := by
  intro pins s σ H x y v u Q I rx ry h
  obtain ⟨a, C, dx, fs, b, C2, dy, gs, rfl, hH, rfl, hH2, c1, c2, hcc, q⟩ := h
  obtain rfl : v = Value.ref a := rx
  obtain rfl : u = Value.ref b := ry
  obtain ⟨mA, O, _, _, _, _⟩ := ins_get I.hok hH
  obtain ⟨odx, J, _⟩ := O.look
  obtain ⟨mB, O2, _, _, _, _⟩ := ins_get I.hok hH2
  obtain ⟨ody, J2, _⟩ := O2.look
  obtain ⟨m, hF⟩ := I.fr
  have run : wpAny (model X.prog X.w) X.A (call (.ref g) [.ref a, .ref b]) (PySem.W.CmpBack (EP X pins σ Q)) X.xe s := by
    refine thn (run_Fn0 (us := [.ref a, .ref b]) (vs := [.ref a, .ref b]) F g0 hr hx I (.cons rfl (.cons rfl .nil)) q) ?_
    rintro v s' ⟨w', H', I', rv, c, rfl, q'⟩
    obtain rfl : v = Value.ref c := rv
    exact ⟨.ref c, H', I', rfl, q'⟩
  by_cases hne : C = C2
  · subst hne
    exact PySem.W.binop_K hF I.ok.mod.kin J J2.type c1.first c1.at_ hf run
  · rcases hcc with z | z
    · exact absurd z hne
    · exact PySem.W.binop_CC hF I.ok.mod.kin J J2.type hne c1.first c2.first c1.at_ hf c1.refl (.inl rfl) c2.at_ c2.refl (.inl rfl) z run
end
end LG
/-! Terms: trees, and the objects that are them. -/
namespace TM
open PySem PySem.Spec PyProof.Rows L2 LG Evl
/-- where the classes stand -/
structure Cs where
  place : Addr
  endd : Addr
  lesser : Addr
  greater : Addr
  term : Addr
inductive Tree where
  | place (n : Str)
  | endd (e : Str)
  | lesser (ts : List Tree)
  | greater (ts : List Tree)
mutual
def Tree.depth : Tree → Nat
  | .place _ => 0
  | .endd _ => 0
  | .lesser ts => Tree.depthAll ts + 1
  | .greater ts => Tree.depthAll ts + 1
def Tree.depthAll : List Tree → Nat
  | [] => 0
  | t :: ts => max t.depth (Tree.depthAll ts)
end
theorem depth_mem {t : Tree} : ∀ {ts : List Tree}, t ∈ ts → t.depth ≤ Tree.depthAll ts
  | u :: us, h => by
    rw [Tree.depthAll]
    rcases List.mem_cons.mp h with rfl | h
    · exact Nat.le_max_left _ _
    · exact Nat.le_trans (depth_mem h) (Nat.le_max_right _ _)
/-- v is the term t, in the heap H -/
inductive TmAt (c : Cs) (H : Hp) : V → Tree → Prop
  | place {a dx : Addr} {n : Str} (h : H a = some (.ins c.place dx [("own_depth", .int 0), ("own_name", .str n)])) : TmAt c H (.ref a) (.place n)
  | endd {a dx : Addr} {e : Str} (h : H a = some (.ins c.endd dx [("own_depth", .int 0), ("own_end", .str e)])) : TmAt c H (.ref a) (.endd e)
  | lesser {a dx p : Addr} {xs : List V} {ts : List Tree} (h : H a = some (.ins c.lesser dx [("own_depth", .int ((Tree.lesser ts).depth : Nat)), ("own_parts", .ref p)])) (hp : H p = some (.tup xs)) (hl : xs.length = ts.length) (hx : ∀ (i : Nat) (x : V) (t : Tree), xs[i]? = some x → ts[i]? = some t → TmAt c H x t) : TmAt c H (.ref a) (.lesser ts)
  | greater {a dx p : Addr} {xs : List V} {ts : List Tree} (h : H a = some (.ins c.greater dx [("own_depth", .int ((Tree.greater ts).depth : Nat)), ("own_parts", .ref p)])) (hp : H p = some (.tup xs)) (hl : xs.length = ts.length) (hx : ∀ (i : Nat) (x : V) (t : Tree), xs[i]? = some x → ts[i]? = some t → TmAt c H x t) : TmAt c H (.ref a) (.greater ts)
/-- what keeps instances and tuples keeps terms -/
theorem TmAt.up {c : Cs} {H H' : Hp} {v : V} {t : Tree} (e : Ex H H') (h : TmAt c H v t) : TmAt c H' v t := by
  induction h with
  | place h => exact .place (e _ _ h)
  | endd h => exact .endd (e _ _ h)
  | lesser h hp hl _ ih => exact .lesser (e _ _ h) (e _ _ hp) hl ih
  | greater h hp hl _ ih => exact .greater (e _ _ h) (e _ _ hp) hl ih
theorem TmAt.upW {c : Cs} {p : Addr} {xs : List V} {H H' : Hp} {v : V} {t : Tree} (hp0 : H p = some (.lst xs)) (e : ∀ b o, b ≠ p → (∀ ps, o ≠ .tbl ps) → H b = some o → H' b = some o) (h : TmAt c H v t) : TmAt c H' v t := by
  have k : ∀ {b : Addr} {o : HO}, H b = some o → (∀ zs, o ≠ .lst zs) → (∀ ps, o ≠ .tbl ps) → H' b = some o := fun {b o} hb hn ht => e b o (fun z => by
    rw [z, hp0] at hb
    exact hn xs (Option.some.inj hb).symm) ht hb
  induction h with
  | place h => exact .place (k h (fun _ z => by cases z) (fun _ z => by cases z))
  | endd h => exact .endd (k h (fun _ z => by cases z) (fun _ z => by cases z))
  | lesser h hp hl _ ih => exact .lesser (k h (fun _ z => by cases z) (fun _ z => by cases z)) (k hp (fun _ z => by cases z) (fun _ z => by cases z)) hl ih
  | greater h hp hl _ ih => exact .greater (k h (fun _ z => by cases z) (fun _ z => by cases z)) (k hp (fun _ z => by cases z) (fun _ z => by cases z)) hl ih
/-! ### text and representation -/
def joinS (sep : Str) : List Str → Str
  | [] => ""
  | [x] => x
  | x :: y :: r => x ++ sep ++ joinS sep (y :: r)
mutual
def Tree.text : Tree → Str
  | .place n => n
  | .endd e => e
  | .lesser ts => joinS " & " (Tree.innerAll ts)
  | .greater ts => joinS " | " (Tree.innerAll ts)
def Tree.innerAll : List Tree → List Str
  | [] => []
  | t :: ts => (if t.depth > 0 then "(" ++ t.text ++ ")" else t.text) :: Tree.innerAll ts
end
mutual
def Tree.repr : Tree → Str
  | .place n => "Place(" ++ PyData.shown (.str n) ++ ")"
  | .endd e => "End(" ++ PyData.shown (.str e) ++ ")"
  | .lesser ts => "Lesser(" ++ joinS ", " (Tree.reprAll ts) ++ ")"
  | .greater ts => "Greater(" ++ joinS ", " (Tree.reprAll ts) ++ ")"
def Tree.reprAll : List Tree → List Str
  | [] => []
  | t :: ts => t.repr :: Tree.reprAll ts
end
end TM
/-! super() in a def with a star parameter: def m(self, *v). -/
namespace LG
open PySem PySem.Spec PyProof.Rows L2
section
variable {P : Program} {w : World} {K : PySem.W.Frag} {mg : Str → Option Value} {base : Heap} {cc cda D f : Addr} {x qual : Str} {st : Stmt} {N ps : List Str} {k : Nat} {sp : Sp} {CX : CXT}
theorem FunS.cells (F : FunS K x qual st cc cda D f) {A : Around} {outer : List Env} {s : Shared} {H : Hp} (e0 : Env0 P w K mg base A outer s H) : NdefX.CellsAt [("__class__", cc)] ["__class__"] [some (V.ref D)] s.heap H := by
  have KX : K.In s.heap := e0.mod.kin.keeps fun b o e => (e0.bs b o e).1
  obtain ⟨cl, cd, sl, hcell⟩ := F.cell
  have one : ∀ {y : Str} {c : Addr}, List.lookup y [(("__class__" : Str), cc)] = some c → y = "__class__" ∧ c = cc := fun {y c} h => by
    rw [List.lookup_cons] at h
    split at h
    · rename_i z
      cases h
      exact ⟨eq_of_beq z, rfl⟩
    · cases h
  have isC : s.heap.IsCell cc (some (.ref D)) := ⟨_, KX _ _ hcell, rfl⟩
  refine ⟨rfl, fun y c h => ?_, fun a b c h1 h2 => (one h1).1.trans (one h2).1.symm, fun i y hy => ?_⟩
  · obtain ⟨_, rfl⟩ := one h
    exact ⟨(e0.bs _ _ (e0.mod.kin _ _ hcell)).2, _, isC⟩
  · match i, hy with
    | 0, hy =>
      cases hy
      exact ⟨cc, by simp, fun v hv => by cases hv; exact ⟨.ref D, rfl, isC⟩⟩
/-- def m(self, *v): what is left over is a new tuple -/
theorem FunS.star {p1 pv : Str} (F : FunS K x qual st cc cda D f) (S : NdefX.NScope N [p1, pv] ["__class__"] (defScope st)) (hCX : StX.CXUp CX)
    (hb : ∀ (kV doc pm : Value) (an : Option Addr) (ct : Value) (u : Value) (us : List Value), bindArgs (PySem.W.ksFn x qual (defArgs st) (defBody st) (defScope st) .none kV doc pm an (.ref cda) ct cc) ⟨u :: us, []⟩ = (newTuple us >>= fun t => pure [(p1, u), (pv, t)]))
    (hbody : ∀ (A : Around) (outer : List Env) (s : Shared) (H : Hp) (vs : List V) (Q : VK) (E : XK), Room k (A.deeper (NdefX.envF (nfOf x qual st cc cda) f s.heap.objs.size)) → sp vs H Q E →
      ∃ t, PSsAt (NdefX.ncx CX P w K mg base N (nfOf x qual st cc cda) f A outer s H E) (defBody st) (defBody st) t ∧ t { nx := fun _ H' => Q .non H', rt := Q } (NdefX.startF N vs [some (.ref D)]) H) :
    FnR P w K mg base CX (k + 1) f (fun vs H Q E => ∃ v ws, vs = v :: ws ∧ ws.length ≤ sizeLine ∧ ∀ p, H p = none → sp [v, V.ref p] (upd H p (.tup ws)) Q E) := by
  intro A outer s H us vs Q E hr e0 rv hsp
  obtain ⟨v, ws, rfl, hz, hq⟩ := hsp
  obtain ⟨oc, od, kV, doc, pm, an, ct, osl, lk⟩ := F.ex
  have KX : K.In s.heap := e0.mod.kin.keeps fun b o e => (e0.bs b o e).1
  have hn : H s.heap.objs.size = none := e0.hok.fresh (Nat.le_refl _)
  match us, rv with
  | u :: us, .cons r0 r =>
    have hl : us.length ≤ sizeLine := by
      rw [← r.length]
      exact hz
    refine codeAny_call_function hr.depth (KX _ _ lk) rfl S.co S.gen rfl (PySem.W.codeRec_of KX F.code) ?_
    rw [hb]
    refine wpAny_bind (wpAny_newTuple (wpAny_pure ?_) hl)
    have new : ObjOk P w (upd H s.heap.objs.size (.tup ws)) (s.heap.push ({ cls := .type "tuple", data := .seq us.toArray } : Obj)) s.heap.objs.size (.tup ws) := ⟨hz, us, r, ⟨_, Heap.get?_push_size _ rfl, rfl, _, rfl⟩⟩
    have un := StX.un_laid (fs := frs outer) (s := s) (o := ({ cls := .type "tuple", data := .seq us.toArray } : Obj)) (u := .tup ws) hn
    have e2 := StX.env0_laid e0 new
    have lim : (s.heap.push ({ cls := .type "tuple", data := .seq us.toArray } : Obj)).NoLimit := e0.mod.nolimit.keeps fun b o e => (e2.bs b o e).1
    refine wpAny_newFunctionEnv (fun y hy => S.nocell y hy) (fun y hy => S.par y.1 ?_) (fun h₁ hns hsb => ⟨lim.fresh _ hsb, PySem.ks_codeAny_funcAt ?_⟩) S.kind
    · rcases List.mem_cons.mp hy with rfl | hy
      · exact List.mem_cons_self
      · rw [List.mem_singleton.mp hy]
        exact List.mem_cons_of_mem _ List.mem_cons_self
    · obtain ⟨t, ht, hq2⟩ := hbody A outer { s with heap := s.heap.push ({ cls := .type "tuple", data := .seq us.toArray } : Obj) } _ _ Q E (hr.deeper _) (hq _ hn)
      have kp : ∀ b o, (s.heap.push ({ cls := .type "tuple", data := .seq us.toArray } : Obj)).get? b = some o → h₁.get? b = some o := fun b o e => hsb.extBut b o (Nat.ne_of_lt (Heap.lt_size e)) (Heap.get?_push_of_some _ e)
      have I := NdefX.inv_startN (CX := CX) (E := E) (f := f) (F := nfOf x qual st cc cda) (vs := [v, V.ref s.heap.objs.size]) (us := [u, Value.ref s.heap.objs.size]) (tk := s.toks + 2) S hr.hd e2 rfl (.cons r0 (.cons rfl .nil)) (F.cells e2) hns kp
      have kp0 : ∀ b o, s.heap.get? b = some o → (s.heap.push ({ cls := .type "tuple", data := .seq us.toArray } : Obj)).get? b = some o := fun b o e => Heap.get?_push_of_some _ e
      refine PySem.ks_wpAt_mono (ht [] _ _ _ _ I hq2) (fun fl s' hs => ?_) fun e s' hs => ?_
      · have fin : ∀ {σ' : L2.St} {H' : Hp} {v' : V} {u' : Value}, Inv (NdefX.ncx CX P w K mg base N (nfOf x qual st cc cda) f A outer { s with heap := s.heap.push ({ cls := .type "tuple", data := .seq us.toArray } : Obj) } (upd H s.heap.objs.size (.tup ws)) E) [] σ' H' s' → L2.RelV v' u' → Q v' H' → CE outer P w H s Q u' s' :=
          fun {σ' H' v' u'} J rv' q => ⟨v', H', J.os, J.bare, un.trans J.base, J.hok, rv', q⟩
        match fl, hs with
        | .ret u', ⟨v', σ', H', J, rv', q⟩ => exact fin J rv' q
        | .next, ⟨σ', H', J, q⟩ => exact fin (v' := V.non) (u' := Value.none) J rfl q
        | .brk, ⟨_, _, _, q⟩ => exact False.elim q
        | .cont, ⟨_, _, _, q⟩ => exact False.elim q
      · exact wpAny_mono hs (fun _ s'' z => hCX outer s H { s with heap := s.heap.push ({ cls := .type "tuple", data := .seq us.toArray } : Obj) } (upd H s.heap.objs.size (.tup ws)) E e s'' un kp0 rfl z) fun e' s'' z => hCX outer s H { s with heap := s.heap.push ({ cls := .type "tuple", data := .seq us.toArray } : Obj) } (upd H s.heap.objs.size (.tup ws)) E e' s'' un kp0 rfl z
end
end LG
/-! A property of an object of one of several own classes; a comprehension over a tuple. -/
namespace LG
open PySem PySem.Spec PyProof.Rows L2 Evl
/-- at the class C the name f is a property that hands out the field fld -/
structure PropG (P : Program) (w : World) (K : PySem.W.Frag) (mg : Str → Option Value) (base : Heap) (CX : CXT) (C : Addr) (f fld : Str) : Prop where
  cl : Cls K C
  ex : ∃ p g fd, PropOf K C f p g ∧ FnOk P w K mg base CX 1 g fd ["self"] (getSp C fld) ∧ Binds K fd ["self"] []
/-- e.f: which field it is, is told by the class -/
def tGetA (G : Addr → Str → Prop) (ta : TE) : TE := fun σ H Q => ta σ H fun x H1 => ∃ a C dx fs fld v, x = .ref a ∧ H1 a = some (.ins C dx fs) ∧ G C fld ∧ fs.lookup fld = some v ∧ Q v H1
section
variable {X : Cx} {CX : CXT} {G : Addr → Str → Prop} {e : Expr} {f : Str} {pos : Pos} {ta : TE}
theorem pe_getA (he : PE X e ta) (hG : ∀ C fld, G C fld → PropG X.prog X.w X.K X.mg X.base CX C f fld) (hr : Room 2 X.A) (hx : Passes CX X.nox (fun _ _ _ => False))
    (hab : attributeBase e f X.env (eval e X.env) = eval e X.env) : PE X (.Attribute e f pos) (tGetA G ta) := by
  refine ⟨fun pins s σ H Q I h => ?_⟩
  refine attr_of hab (thn (he.run pins s σ H _ I h) fun u s1 ⟨x, H1, I1, rx, a, C, dx, fs, fld, v, ex, ea, g, hv, q⟩ => ?_)
  subst ex
  obtain rfl : u = Value.ref a := rx
  obtain ⟨p, ga, fd, hp, F, hb⟩ := (hG C fld g).ex
  exact getprop_ok I1 ea (hG C fld g).cl hp F hr hb .nil hx ⟨a, dx, fs, v, rfl, ea, hv, q⟩
end
section
variable {te : TE} {t : TT} {σ : L2.St} {H : Hp} {K : PySem.W.Frag} {G : Addr → Str → Prop}
theorem ev_getA {a C dx : Addr} {fs : List (Str × V)} {fld : Str} {v : V} (h : Ev te σ H (.ref a)) (ea : H a = some (.ins C dx fs)) (g : G C fld) (hv : fs.lookup fld = some v) : Ev (tGetA G te) σ H v :=
  fun H1 e Q q => h H1 e _ fun H2 e2 => ⟨a, C, dx, fs, fld, v, rfl, e2 _ _ (e _ _ ea), g, hv, q H2 e2⟩
theorem el_lcT {a : Addr} {xs : List V} {tl : TE} {j : Nat} {vs : List Nat} (f : Nat → Bool) (v : Nat → V) (h : Ev tl σ H (.ref a)) (hx : SqT K H a xs) (hz : xs.length ≤ 40000) (hw : ∀ x, wipe ((wipe σ vs).set j (some x)) vs = wipe σ vs)
    (ht : ∀ (i : Nat) (x : V) H1, Ex H H1 → xs[i]? = some x → EvT t ((wipe σ vs).set j (some x)) H1 (f i)) (he : ∀ (i : Nat) (x : V) H1, Ex H H1 → xs[i]? = some x → f i = true → Ev te ((wipe σ vs).set j (some x)) H1 (v i)) :
    EvL (tLc (iTup K tl) (gName j) t te vs) σ H (given xs.length f v) := fun H0 e Q q => h H0 e _ fun H1 e1 => ⟨a, rfl, ⟨xs, ex_t (e.trans e1) hx⟩, fun Dl hD =>
  lc_tup (xs := xs) (Cw H1 f v Dl) ⟨hD, Ex.new hD, upd_same⟩ (fun i H' _ p => ex_t ((e.trans e1).trans p.2.1) hx) (fun i x H' hi p => ⟨hw x, cw_turn p (by have := (List.getElem?_eq_some_iff.mp hi).1; omega) (ht i x H1 (e.trans e1) hi) (fun hf => he i x H1 (e.trans e1) hi hf)⟩)
    (fun H' p => q Dl H' (fresh_back e1 p.1) (e1.trans p.2.1) p.2.2)⟩
/-- each element of a tuple, computed: ys the values -/
theorem el_tmap {a : Addr} {xs ys : List V} {tl : TE} {j : Nat} {vs : List Nat} (h : Ev tl σ H (.ref a)) (hx : SqT K H a xs) (hz : xs.length ≤ 40000) (hl : xs.length = ys.length) (hw : ∀ x, wipe ((wipe σ vs).set j (some x)) vs = wipe σ vs)
    (he : ∀ (i : Nat) (x y : V) H1, Ex H H1 → xs[i]? = some x → ys[i]? = some y → Ev te ((wipe σ vs).set j (some x)) H1 y) :
    EvL (tLc (iTup K tl) (gName j) tYes te vs) σ H ys := by
  have z : given xs.length (fun _ => true) (fun i => ys.getD i .non) = ys := by
    unfold given
    rw [List.filter_eq_self.mpr fun _ _ => rfl, hl]
    apply List.ext_getElem?
    intro i
    rw [List.getElem?_map]
    by_cases hi : i < ys.length
    · rw [List.getElem?_eq_getElem (by simpa using hi), List.getElem?_eq_getElem hi]
      simp [List.getD_eq_getElem?_getD, List.getElem?_eq_getElem hi]
    · rw [List.getElem?_eq_none (by simpa using hi), List.getElem?_eq_none (by omega)]
      rfl
  rw [← z]
  refine el_lcT (fun _ => true) _ h hx hz hw (fun i x H1 e hi => fun H2 e2 _ q => q H2 (Ex.refl H2)) (fun i x H1 e hi _ => ?_)
  have hi2 : i < ys.length := hl ▸ (List.getElem?_eq_some_iff.mp hi).1
  exact he i x _ H1 e hi (by rw [List.getElem?_eq_getElem hi2]; simp [List.getD_eq_getElem?_getD, List.getElem?_eq_getElem hi2])
end
end LG
/-! Plain readings: isinstance of an own object, f-strings of three parts, join of a new list. -/
namespace LG
open PySem PySem.Spec PyProof.Rows L2 Evl
section
variable {te : TE} {σ : L2.St} {H : Hp} {K : PySem.W.Frag}
theorem et_isT {x : V} {C : Value} {D : Addr} {b : Bool} (hx : Ev te σ H x) (ty : ∀ H1, Ex H H1 → TyX K H1 x C) (hk : PySem.W.kitOne K C (.ref D) = some b) : EvT (tTest (tCB (rIsi K) (tCons te (tCons (tC (.ref D)) tNil)))) σ H b :=
  et_test (ev_cb (ea_cons hx (ea_cons ev_c ea_nil)) fun H1 e Q q => ⟨x, .ref D, C, .ref D, b, rfl, .own D, ty H1 e, hk, q H1 (Ex.refl H1)⟩)
theorem ev_fmtR {y : Str} (h : Ev te σ H (.str y)) (hz : (reprText y).length ≤ 100000) : Ev (tFmtR te) σ H (.str (reprText y)) := fun H1 e Q q => h H1 e _ fun H2 e2 => .inl ⟨y, rfl, sz_of hz, q H2 e2⟩
theorem ev_fmt {y : Str} (h : Ev te σ H (.str y)) (hz : y.length ≤ sizeLine) : Ev (tFmt te) σ H (.str y) := fun H1 e Q q => h H1 e _ fun H2 e2 => .inl ⟨y, rfl, hz, q H2 e2⟩
theorem ev_joined3 {s1 s2 y : Str} (h : Ev te σ H (.str y)) (h1 : Str.empty ++ s1 = s1) (z1 : s1.length ≤ sizeLine) (z2 : (s1 ++ y).length ≤ sizeLine) (z3 : (s1 ++ y ++ s2).length ≤ sizeLine) :
    Ev (fun σ H Q => tJs [tC (.str s1), te, tC (.str s2)] Str.empty σ H fun out H1 => Q (.str out) H1) σ H (.str (s1 ++ y ++ s2)) := fun H1 e Q q => ⟨s1, rfl, by rw [h1]; exact z1, by
      rw [h1]
      exact h H1 e _ fun H2 e2 => ⟨y, rfl, z2, s2, rfl, z3, q H2 e2⟩⟩
theorem ev_join {sep : Str} {ys : List Str} (h : EvL te σ H (ys.map V.str)) (hz : (ys.map (·.length)).sum + ys.length * sep.length ≤ 16777216) :
    Ev (tM1 (fun x xs H Q => ∃ a p, ∃ ys : List Str, x = .str a ∧ xs = [.ref p] ∧ (SqL K H p (ys.map V.str) ∨ SqT K H p (ys.map V.str)) ∧ (ys.map (·.length)).sum + ys.length * a.length ≤ 16777216 ∧ Q (.str (Txt.join a ys)) H) (tC (.str sep)) te) σ H (.str (TM.joinS sep ys)) := by
  intro H1 e Q q
  refine ⟨⟨sep, rfl⟩, h H1 e _ fun p H2 hp e2 hl => ⟨sep, p, ys, rfl, rfl, .inl (sq_of hl), hz, ?_⟩⟩
  have z : ∀ ys : List Str, Str.join sep ys = TM.joinS sep ys := by
    intro ys
    induction ys with
    | nil => rfl
    | cons x r ih =>
      cases r with
      | nil => rfl
      | cons y r =>
        show x ++ sep ++ Str.join sep (y :: r) = x ++ sep ++ TM.joinS sep (y :: r)
        rw [ih]
  rw [TL.join_eq, z]
  exact q H2 e2
end
end LG
/-! x == y, x of a built-in kind, y an instance whose class has an own __eq__; == and != of data. -/
namespace LG
open PySem PySem.SeqAt PyProof.Rows
open AutoSeq1 (wpAny_loadPart')
open MeetsSeq
/-! the builtin kinds turn down a comparison with an own instance -/
theorem str_down (b : Str) (u : Tok) (l : Addr) (c : Value) (dd : Option Addr) (sl : Array (Option Value)) :
    Meets (Builtin.«str.__eq__» ⟨[.str b u, .ref l], []⟩) (fun _ R s => s.heap.get? l = some { cls := c, dict := dd, data := .plain, slots := sl } ∧ R (.ok (.ret .notImplemented)) s) :=
  .of_wp fun prog w A R s h => by obtain ⟨hp, g, d, tk, os⟩ := s; obtain ⟨hl, h⟩ := h; wp_walk using wpAny_loadPart' hl, wpAny_load hl; exact ⟨_, rfl, h⟩
theorem int_down (b : Int) (u : Tok) (l : Addr) (c : Value) (dd : Option Addr) (sl : Array (Option Value)) :
    Meets (Builtin.«int.__eq__» ⟨[.int b u, .ref l], []⟩) (fun _ R s => s.heap.get? l = some { cls := c, dict := dd, data := .plain, slots := sl } ∧ R (.ok (.ret .notImplemented)) s) :=
  .of_wp fun prog w A R s h => by obtain ⟨hp, g, d, tk, os⟩ := s; obtain ⟨hl, h⟩ := h; wp_walk using wpAny_loadPart' hl, wpAny_load hl; exact ⟨_, rfl, h⟩
section
variable {prog : Program} {w : World}
theorem list_down (b l C : Addr) (items : Array Value) (n : Nat) (dd dd2 : Option Addr) (sl sl2 : Array (Option Value)) :
    MeetsIn prog w (Builtin.«list.__eq__» ⟨[.ref b, .ref l], []⟩) (fun _ R s => s.heap.get? b = some { cls := .type "list", dict := dd, data := .seq items n, slots := sl } ∧ s.heap.get? l = some { cls := .ref C, dict := dd2, data := .plain, slots := sl2 } ∧ PySem.W.Looks (model prog w) s.heap (isSubtype (.ref C) (.type "list")) false ∧ R (.ok (.ret .notImplemented)) s) := by
  intro A R s h
  obtain ⟨hp, g, d, tk, os⟩ := s
  obtain ⟨hl, hx, lk, h⟩ := h
  wp_walk using wpAny_loadPart' hl
  refine PySem.W.Looks.at lk ?_
  wp_walk
  exact h
theorem tuple_down (b l C : Addr) (items : Array Value) (n : Nat) (dd dd2 : Option Addr) (sl sl2 : Array (Option Value)) :
    MeetsIn prog w (Builtin.«tuple.__eq__» ⟨[.ref b, .ref l], []⟩) (fun _ R s => s.heap.get? b = some { cls := .type "tuple", dict := dd, data := .seq items n, slots := sl } ∧ s.heap.get? l = some { cls := .ref C, dict := dd2, data := .plain, slots := sl2 } ∧ PySem.W.Looks (model prog w) s.heap (isSubtype (.ref C) (.type "tuple")) false ∧ R (.ok (.ret .notImplemented)) s) := by
  intro A R s h
  obtain ⟨hp, g, d, tk, os⟩ := s
  obtain ⟨hl, hx, lk, h⟩ := h
  wp_walk using wpAny_loadPart' hl
  refine PySem.W.Looks.at lk ?_
  wp_walk
  exact h
theorem dict_down (b l C : Addr) (es : Array DictEntry) (n : Nat) (dd dd2 : Option Addr) (sl sl2 : Array (Option Value)) :
    MeetsIn prog w (Builtin.«dict.__eq__» ⟨[.ref b, .ref l], []⟩) (fun _ R s => s.heap.get? b = some { cls := .type "dict", dict := dd, data := .dict es n, slots := sl } ∧ s.heap.get? l = some { cls := .ref C, dict := dd2, data := .plain, slots := sl2 } ∧ PySem.W.Looks (model prog w) s.heap (isSubtype (.ref C) (.type "dict")) false ∧ R (.ok (.ret .notImplemented)) s) := by
  intro A R s h
  obtain ⟨hp, g, d, tk, os⟩ := s
  obtain ⟨hl, hx, lk, h⟩ := h
  wp_walk using wpAny_loadPart' hl
  refine PySem.W.Looks.at lk ?_
  wp_walk
  exact h
theorem none_down (l : Addr) : Gives (Builtin.«NoneType.__eq__» ⟨[.none, .ref l], []⟩) (.val (Value.notImplemented)) := NoneType___eq___none_ref_0 l
/-- a == y: a of a built-in kind that turns it down, y an instance whose class has an own __eq__ -/
theorem rc_right {A : Around} {E : Value → Shared → Prop} {s : Shared} {K : PySem.W.Frag} {x C f : Addr} {ox : Obj} {od : Option Obj} {u : Value} {Ta id : String} {Q : Value → Shared → Prop} (X : K.In s.heap) (I : PySem.W.InstAt s.heap x ox C od) (ha : s.TypeIs u Ta) (hm : PySem.W.mroIn K C (.type Ta) = some false)
    (hs : PySem.W.findIn K (.ref C) "__eq__" = some (some (.ref f))) (hf : PySem.W.isFn K (.ref f) = true) (hu : A.units < cLine) (h1 : Slot Ta (cmpInfo .Eq).2.1 id)
    (hc : ∀ Q' : Value → Shared → Prop, Q' .notImplemented s → wpAny (model prog w) A (call (.builtin id) [u, .ref x]) Q' E s)
    (h : wpAny (model prog w) A (call (.ref f) [.ref x, u]) (PySem.W.CmpBack Q) E s) : wpAny (model prog w) A (richCompare .Eq u (.ref x)) Q E s := by
  have one : wpAny (model prog w) A (tryCompare (.ref x) (cmpInfo .Eq).2.2 u) (fun r s' => ∃ v, r = some v ∧ Q v s') E s := by
    unfold tryCompare
    refine wpAny_bind (PySem.W.ifBound_K X I hs hf (wpAny_mono h (fun v s' hv => ?_) fun _ _ e => e))
    cases v <;> first | exact hv.elim | exact wpAny_pure ⟨_, rfl, hv⟩
  rcases hi : cmpInfo CmpOp.Eq with ⟨sym, g, r⟩
  rw [hi] at h1 one
  simp only [richCompare, hi, ha.oneThing_none]
  refine wpAny_holding ?_
  refine wpAny_bind (wpAny_cRoomFor hu ?_)
  refine wpAny_bind (wpAny_typeOf ha (wpAny_bind (I.type.here ?_)))
  have ne : (Value.type Ta != Value.ref C) = true := rfl
  simp only [ne, if_true]
  refine wpAny_bind ((PySem.W.looks_mroIn X hm).here ?_)
  simp only [Bool.false_eq_true, if_false, Bool.not_false, if_true]
  refine wpAny_bind (m := tryCompare u _ (.ref x)) (wpAny_tryCompare_declines ha h1 (hc _ ⟨rfl, ?_⟩))
  refine wpAny_bind (wpAny_mono one (fun r s' z => ?_) fun _ _ e => e)
  obtain ⟨v, rfl, hq⟩ := z
  exact wpAny_pure hq
end
end LG
namespace LG
open PySem PySem.Spec PyProof.Rows L2
/-- the kinds that a comparison with an own instance meets here -/
inductive Kd (H : Hp) : V → String → Prop
  | non : Kd H .non "NoneType"
  | int (i : Int) : Kd H (.int i) "int"
  | str (x : Str) : Kd H (.str x) "str"
  | lst {p : Addr} {xs : List V} (h : H p = some (.lst xs)) : Kd H (.ref p) "list"
  | tup {p : Addr} {xs : List V} (h : H p = some (.tup xs)) : Kd H (.ref p) "tuple"
  | dic {p : Addr} {kvs : List (Key × V)} (h : H p = some (.dK kvs)) : Kd H (.ref p) "dict"
theorem Kd.ty {K : PySem.W.Frag} {H : Hp} {v : V} {t : String} (h : Kd H v t) : TyX K H v (.type t) := by
  cases h with
  | non => exact .base .non
  | int i => exact .base (.int i)
  | str x => exact .base (.str x)
  | lst h => exact .base (.lst h)
  | tup h => exact .base (.tup h)
  | dic h => exact .base (.dK h)
def kinds : List String := ["NoneType", "int", "str", "list", "tuple", "dict"]
theorem Kd.mem {H : Hp} {v : V} {t : String} (h : Kd H v t) : t ∈ kinds := by cases h <;> decide
/-- a class of the text that is none of these kinds -/
def noKinds (K : PySem.W.Frag) (C : Addr) : Bool := kinds.all fun t => PySem.W.mroIn K C (.type t) == some false
theorem noKinds_at {K : PySem.W.Frag} {C : Addr} (h : noKinds K C = true) {t : String} (ht : t ∈ kinds) : PySem.W.mroIn K C (.type t) = some false := beq_iff_eq.mp (List.all_eq_true.mp h t ht)
section
variable {X : Cx} {k : Nat} {C g : Addr} {sp : Sp} {E : XK}
def rEqRight (C : Addr) (sp : Sp) (E : XK) : R2 := fun x y H Q => ∃ a dx fs t, y = .ref a ∧ H a = some (.ins C dx fs) ∧ Kd H x t ∧ sp [y, x] H (fun v H' => ∃ b, v = .bl b ∧ Q v H') E
theorem op_eqRight (hs : PySem.W.findIn X.K (.ref C) "__eq__" = some (some (.ref g))) (hf : PySem.W.isFn X.K (.ref g) = true) (hk : noKinds X.K C = true) (Fg : Fn X.prog X.w X.K X.mg X.base k g sp) (g0 : X.A.guards = some []) (hr : Room k X.A) (hx : Passes (L2.CX X.prog X.w) X E) : OpR X (compareOp .Eq) (rEqRight C sp E) := by
  intro pins s σ H x y v u Q I rx ry h
  obtain ⟨a, dx, fs, t, rfl, hH, kd, q⟩ := h
  obtain rfl : u = Value.ref a := ry
  obtain ⟨mA, O, _, _, _, _⟩ := ins_get I.hok hH
  obtain ⟨odx, J, _⟩ := O.look
  have hm := noKinds_at hk kd.mem
  have go : wpAny (model X.prog X.w) X.A (call (.ref g) [.ref a, v]) (PySem.W.CmpBack (EP X pins σ Q)) X.xe s := by
    refine thn (run_Fn0 (us := [.ref a, v]) (vs := [.ref a, x]) Fg g0 hr hx I (.cons rfl (.cons rx .nil)) q) ?_
    rintro v2 s' ⟨w', H', I', rv, b, rfl, q'⟩
    obtain rfl : v2 = Value.bool b := rv
    exact ⟨.bl b, H', I', rfl, q'⟩
  show wpAny _ _ (richCompare .Eq v (.ref a)) _ _ _
  have lk : PySem.W.Looks (model X.prog X.w) s.heap (isSubtype (.ref C) (.type t)) false := PySem.W.looks_mroIn I.kIn hm
  cases kd with
  | non =>
    obtain rfl : v = Value.none := rx
    exact rc_right I.kIn J (Ta := "NoneType") rfl hm hs hf hr.units0 F.slot_NoneType_eq (fun Q' q' => call_gives F.slot_NoneType_eq rfl F.entry_NoneType_eq (F.args_NoneType_eq_2 _ _) (none_down _) q') go
  | int i =>
    obtain ⟨t, rfl⟩ := rx
    exact rc_right I.kIn J (Ta := "int") (typeIs_int s i t) hm hs hf hr.units0 F.slot_int_eq (fun Q' q' => call_meets F.slot_int_eq (typeIs_int s i t) F.entry_int_eq (F.args_int_eq_2 _ _) (int_down i t a _ _ _) ⟨J.at_, q'⟩) go
  | str z =>
    obtain ⟨t, rfl⟩ := rx
    exact rc_right I.kIn J (Ta := "str") rfl hm hs hf hr.units0 F.slot_str_eq (fun Q' q' => call_meets F.slot_str_eq rfl F.entry_str_eq (F.args_str_eq_2 _ _) (str_down z t a _ _ _) ⟨J.at_, q'⟩) go
  | @lst p xs hp =>
    obtain rfl : v = Value.ref p := rx
    obtain ⟨its, rv, ⟨⟨cls, dd, data, sls⟩, n, ho, hc, hdn, hdt⟩, _⟩ := I.list (Or.inl (Or.inl hp))
    simp only at hc hdt
    subst hc hdt
    exact rc_right I.kIn J (Ta := "list") ⟨_, ho, rfl⟩ hm hs hf hr.units0 F.slot_list_eq (fun Q' q' => call_meetsIn F.slot_list_eq ⟨_, ho, rfl⟩ F.entry_list_eq (F.args_list_eq_2 _ _) (list_down p a C _ _ _ _ _ _) ⟨ho, J.at_, lk, q'⟩) go
  | @tup p xs hp =>
    obtain rfl : v = Value.ref p := rx
    obtain ⟨its, rv, ⟨⟨cls, dd, data, sls⟩, ho, hc, n, hdt⟩, _⟩ := I.tuple (Or.inl (Or.inl hp))
    simp only at hc hdt
    subst hc hdt
    exact rc_right I.kIn J (Ta := "tuple") ⟨_, ho, rfl⟩ hm hs hf hr.units0 F.slot_tuple_eq (fun Q' q' => call_meetsIn F.slot_tuple_eq ⟨_, ho, rfl⟩ F.entry_tuple_eq (F.args_tuple_eq_2 _ _) (tuple_down p a C _ _ _ _ _ _) ⟨ho, J.at_, lk, q'⟩) go
  | @dic p kvs hp =>
    obtain rfl : v = Value.ref p := rx
    obtain ⟨_, _, _, _, ⟨cls, dd, data, sls⟩, es, _, ho, hc, hd, _, _, _⟩ := I.hok p _ hp
    have hc1 := hc.1
    simp only at hc1 hd
    subst hc1 hd
    exact rc_right I.kIn J (Ta := "dict") ⟨_, ho, rfl⟩ hm hs hf hr.units0 F.slot_dict_eq (fun Q' q' => call_meetsIn F.slot_dict_eq ⟨_, ho, rfl⟩ F.entry_dict_eq (F.args_dict_eq_2 _ _) (dict_down p a C _ _ _ _ _ _) ⟨ho, J.at_, lk, q'⟩) go
/-- == and != of data without dicts, of any depth up to 64 -/
def rEqP (K : PySem.W.Frag) : R2 := fun x y H Q => ∃ d e, Dp K H x d ∧ Dp K H y e ∧ d.plain = true ∧ e.plain = true ∧ d.depth ≤ 64 ∧ Q (.bl (PyData.eqv d e)) H
def rNeP (K : PySem.W.Frag) : R2 := fun x y H Q => ∃ d e, Dp K H x d ∧ Dp K H y e ∧ d.plain = true ∧ e.plain = true ∧ d.depth ≤ 64 ∧ Q (.bl (!PyData.eqv d e)) H
theorem op_eqP (hu : X.A.units + 64 < cLine) : OpR X (compareOp .Eq) (rEqP X.K) := by
  intro pins s σ H x y v u Q I rx ry h
  obtain ⟨d, e, hd, he, pd, pe, z, q⟩ := h
  obtain ⟨as, r1⟩ := Dp.reads I d x v hd rx
  obtain ⟨bs, r2⟩ := Dp.reads I e y u he ry
  exact SeqAt.eq_plain r1 r2 pd pe (by omega) ⟨.bl _, H, I, rfl, q⟩
theorem op_neP (hu : X.A.units + 64 < cLine) : OpR X (compareOp .NotEq) (rNeP X.K) := by
  intro pins s σ H x y v u Q I rx ry h
  obtain ⟨d, e, hd, he, pd, pe, z, q⟩ := h
  obtain ⟨as, r1⟩ := Dp.reads I d x v hd rx
  obtain ⟨bs, r2⟩ := Dp.reads I e y u he ry
  exact SeqAt.ne_plain r1 r2 pd pe (by omega) ⟨.bl _, H, I, rfl, q⟩
end
end LG
/-! Comprehensions whose steps change the heap. -/
namespace LG
open PySem PySem.Spec PyProof.Rows L2 Evl
section
variable {K : PySem.W.Frag} {te : TE} {σ : L2.St} {H1 : Hp} {j : Nat} {Q : Addr → Hp → Prop}
/-- [e for j in range(m)], behind the range: W D i xs H: i turns are done, the new list at D holds xs -/
theorem lcR_inv {m : Int} (hm : 0 ≤ m ∧ m ≤ 40000) (hw : ∀ x, wipe ((wipe σ [j]).set j (some x)) [j] = wipe σ [j]) (W : Addr → Nat → List V → Hp → Prop) (h0 : ∀ D, H1 D = none → W D 0 [] (upd H1 D (.lst [])))
    (hs : ∀ D (i : Nat) xs H', H1 D = none → (i : Int) < m → xs.length = i → W D i xs H' → H' D = some (.lst xs) → ∀ Q' : VK, (∀ y H4, H4 D = some (.lst xs) → W D (i + 1) (xs ++ [y]) (upd H4 D (.lst (xs ++ [y]))) → Q' y H4) → te ((wipe σ [j]).set j (some (.int (i : Int)))) H' Q')
    (hd : ∀ D xs H', H1 D = none → (xs.length : Int) = m → W D xs.length xs H' → H' D = some (.lst xs) → Q D H') :
    ∀ D, H1 D = none → ∃ W : Nat → Nat → Hp → Prop, (∃ m, W 0 m (upd H1 D (.lst []))) ∧ ∀ i k H, W i k H →
      ((Itr 0 m.toNat).stop i H ∧ Q D H) ∨ ((Itr 0 m.toNat).go i H ∧ ∃ Nx : Hp → Prop, (∀ H', Nx H' → ∃ m', m' < k ∧ W (i + 1) m' H') ∧ ∀ x H', (Itr 0 m.toNat).yld i H x H' → gName j x (wipe σ [j]) H' fun σ2 H2 => wipe σ2 [j] = wipe σ [j] ∧ tYes σ2 H2 fun b H3 =>
        if b = true then te σ2 H3 fun y H4 => ∃ acc, H4 D = some (.lst acc) ∧ acc.length < sizeLine ∧ Nx (upd H4 D (.lst (acc ++ [y]))) else Nx H3) := fun D hD => by
  refine lc_range (lo := 0) (n := m.toNat) (g := gName j) (tt := tYes) (te := te) (vs := [j]) (σ := σ) (H1 := H1) (D := D) (Qd := fun H => Q D H) (fun i H' => ∃ xs, xs.length = i ∧ H' D = some (.lst xs) ∧ W D i xs H') ⟨[], rfl, upd_same, h0 D hD⟩ (fun i H' hi ⟨xs, hl, hx, w⟩ => ?_) (fun H' ⟨xs, hl, hx, w⟩ => ?_)
  · have e0 : (0 : Int) + (i : Int) = (i : Int) := Int.zero_add _
    show wipe ((wipe σ [j]).set j (some (.int ((0 : Int) + (i : Int))))) [j] = wipe σ [j] ∧ te ((wipe σ [j]).set j (some (.int ((0 : Int) + (i : Int))))) H' fun y H4 => ∃ acc, H4 D = some (.lst acc) ∧ acc.length < sizeLine ∧ ∃ xs, xs.length = i + 1 ∧ (upd H4 D (.lst (acc ++ [y]))) D = some (.lst xs) ∧ W D (i + 1) xs (upd H4 D (.lst (acc ++ [y])))
    rw [e0]
    exact ⟨hw _, hs D i xs H' hD (by omega) hl w hx _ fun y H4 h4 w4 => ⟨xs, h4, sz_lt (by omega), _, by rw [List.length_append, hl]; rfl, upd_same, w4⟩⟩
  · exact hd D xs H' hD (by omega) (by rw [hl]; exact w) hx
/-- [e for j in xs], behind the list's making -/
theorem lcL_inv {a : Addr} {ys : List V} (hy : SqL K H1 a ys) (hz : ys.length ≤ 40000) (hw : ∀ x, wipe ((wipe σ [j]).set j (some x)) [j] = wipe σ [j]) (W : Addr → Nat → List V → Hp → Prop) (h0 : ∀ D, H1 D = none → W D 0 [] (upd H1 D (.lst [])))
    (hl : ∀ D i xs H', H1 D = none → W D i xs H' → SqL K H' a ys)
    (hs : ∀ D (i : Nat) x xs H', H1 D = none → ys[i]? = some x → xs.length = i → W D i xs H' → H' D = some (.lst xs) → ∀ Q' : VK, (∀ y H4, H4 D = some (.lst xs) → W D (i + 1) (xs ++ [y]) (upd H4 D (.lst (xs ++ [y]))) → Q' y H4) → te ((wipe σ [j]).set j (some x)) H' Q')
    (hd : ∀ D xs H', H1 D = none → xs.length = ys.length → W D xs.length xs H' → H' D = some (.lst xs) → Q D H') :
    ∀ D, H1 D = none → ∃ W : Nat → Nat → Hp → Prop, (∃ m, W 0 m (upd H1 D (.lst []))) ∧ ∀ i k H, W i k H →
      ((Itl K a).stop i H ∧ Q D H) ∨ ((Itl K a).go i H ∧ ∃ Nx : Hp → Prop, (∀ H', Nx H' → ∃ m', m' < k ∧ W (i + 1) m' H') ∧ ∀ x H', (Itl K a).yld i H x H' → gName j x (wipe σ [j]) H' fun σ2 H2 => wipe σ2 [j] = wipe σ [j] ∧ tYes σ2 H2 fun b H3 =>
        if b = true then te σ2 H3 fun y H4 => ∃ acc, H4 D = some (.lst acc) ∧ acc.length < sizeLine ∧ Nx (upd H4 D (.lst (acc ++ [y]))) else Nx H3) := fun D hD => by
  refine lc_list (K := K) (a := a) (xs := ys) (g := gName j) (tt := tYes) (te := te) (vs := [j]) (σ := σ) (H1 := H1) (D := D) (Qd := fun H => Q D H) (fun i H' => ∃ xs, xs.length = i ∧ H' D = some (.lst xs) ∧ W D i xs H') ⟨[], rfl, upd_same, h0 D hD⟩ (fun i H' _ ⟨xs, _, _, w⟩ => hl D i xs H' hD w) (fun i x H' hi ⟨xs, hl2, hx, w⟩ => ?_) (fun H' ⟨xs, hl2, hx, w⟩ => ?_)
  · have hi2 : i < ys.length := (List.getElem?_eq_some_iff.mp hi).1
    show wipe ((wipe σ [j]).set j (some x)) [j] = wipe σ [j] ∧ te ((wipe σ [j]).set j (some x)) H' fun y H4 => ∃ acc, H4 D = some (.lst acc) ∧ acc.length < sizeLine ∧ ∃ xs, xs.length = i + 1 ∧ (upd H4 D (.lst (acc ++ [y]))) D = some (.lst xs) ∧ W D (i + 1) xs (upd H4 D (.lst (acc ++ [y])))
    exact ⟨hw _, hs D i x xs H' hD hi hl2 w hx _ fun y H4 h4 w4 => ⟨xs, h4, sz_lt (by omega), _, by rw [List.length_append, hl2]; rfl, upd_same, w4⟩⟩
  · exact hd D xs H' hD hl2 (by rw [hl2]; exact w) hx
end
section
variable {X : Cx} {K : PySem.W.Frag} {o e : Expr} {es : List Expr} {to : TE} {t : TA} {name : Str} {apos cpos pos : Pos} {T id : String} {r : V → List V → Hp → VK → Prop}
/-- pe_bm within a comprehension: the reading names K itself -/
theorem pe_bmK (hK : X.K = K) (pa : PlainAttrs T) (slot : Slot T name id) (hty : typeOf (.builtin id) = pure (.type "method_descriptor")) (hm : MtR X id r) (ho : PE X o to) (ha : PA X (e :: es) t)
    (hbase : attributeBase o name X.env (eval o X.env) = eval o X.env := by rfl)
    (hfew : ((backTo cpos (starEach (e :: es) X.env)).all (fun x => !x.1) && (backToKw cpos (keywordEach [] X.env)).all (fun x => x.1.isSome)
      && decide ((e :: es).length + ([] : List Keyword).length + (if ([] : List Keyword).isEmpty then 0 else 1) < 30)) = true := by rfl)
    (hline : (apos.endLine == cpos.line) = true := by rfl) (hs : starEach (e :: es) X.env = (false, eval e X.env) :: starEach es X.env := by rfl) (hplain : (backTo cpos (starEach es X.env)).any (·.1) = false := by rfl) :
    PE X (.Call (.Attribute o name apos) (e :: es) [] cpos) (tBM K T r to t) := by
  subst hK
  exact pe_bm pa slot hty hm ho ha hbase hfew hline hs hplain
theorem cr_lenK (hK : X.K = K) : CallR X (.builtin "len") (rLenS K) := by
  subst hK
  exact call_len_seq
end
section
variable {σ : L2.St} {H : Hp} {ta tb : TE} {x y : V}
theorem et_eqT (ha : Ev ta σ H x) (hb : Ev tb σ H y) (hs : scal x y = true) (e : x = y) : EvT (tTest (tOp rEq ta tb)) σ H true := et_is (et_test (ev_op ha hb (rv_eq hs))) (decide_eq_true e)
theorem et_eqF (ha : Ev ta σ H x) (hb : Ev tb σ H y) (hs : scal x y = true) (e : x ≠ y) : EvT (tTest (tOp rEq ta tb)) σ H false := et_is (et_test (ev_op ha hb (rv_eq hs))) (decide_eq_false e)
theorem str_ne {x y : Str} (h : x ≠ y) : V.str x ≠ V.str y := fun z => h (V.str.inj z)
end
end LG
/-! Plain readings: a displayed dict of texts asked at a text, texts added, joined; a comprehension over a list. -/
namespace LG
open PySem PySem.Spec PyProof.Rows L2 Evl
section
variable {σ : L2.St} {H : Hp} {ta tb te ty to : TE} {K : PySem.W.Frag}
def kvT (kvs : List (Str × Str)) : List (TE × TE) := kvs.map fun kv => (tC (.str kv.1), tC (.str kv.2))
def kvV (kvs : List (Str × Str)) : List (Key × V) := kvs.map fun kv => (Sum.inr kv.1, V.str kv.2)
theorem pairs_c : ∀ (kvs : List (Str × Str)) (σ : L2.St) (H : Hp) (Q : List (V × V) → Hp → Prop), Q (kvs.map fun kv => (V.str kv.1, V.str kv.2)) H → tPairs (kvT kvs) σ H Q
  | [], _, _, _, h => h
  | kv :: r, σ, H, Q, h => pairs_c r σ H _ h
theorem ev_dget {kvs : List (Str × Str)} {k v : Str} (h15 : kvs.length ≤ 15) (hk : Ev ty σ H (.str k)) (hv : valV (mergeK [] (kvV kvs)) (Sum.inr k) = some (.str v)) : Ev (tDGet (tDisp (kvT kvs)) ty) σ H (.str v) := fun H1 e Q q => by
  intro p hp
  refine pairs_c kvs σ _ _ ⟨upd_same, kvV kvs, ?_, by simpa [kvV] using h15, ?_⟩
  · unfold kvV
    rw [List.map_map]
    rfl
  · rw [upd_upd]
    refine hk _ (e.trans (Ex.new hp)) _ fun H3 e3 => ⟨p, .str v, rfl, ?_, q H3 ((Ex.new hp).trans e3)⟩
    rw [← hv]
    exact DGet.k (k := Sum.inr k) (e3 p _ upd_same)
theorem ev_fn {sp : Sp} {vs : List V} {E : XK} {tv : TA} {z : V} (h : EvA tv σ H vs) (hs : SpV sp vs H z) : Ev (tFn sp E tv) σ H z := fun H1 e Q q => h H1 e _ fun H2 e2 => hs H2 (e.trans e2) Q (fun H3 e3 => q H3 (e2.trans e3)) E
theorem ev_addS {x y : Str} (ha : Ev ta σ H (.str x)) (hb : Ev tb σ H (.str y)) (hz : x.length + y.length ≤ 2000000) : Ev (tOp (fun x y H Q => ∃ i j, x = .str i ∧ y = .str j ∧ i.length + j.length ≤ sizeLine ∧ Q (.str (i ++ j)) H) ta tb) σ H (.str (x ++ y)) :=
  ev_op ha hb fun H1 e Q q => ⟨x, y, rfl, rfl, Nat.le_trans hz (by decide), q H1 (Ex.refl H1)⟩
theorem ev_joinG {sep : Str} {ys : List Str} (hs : Ev to σ H (.str sep)) (h : EvL te σ H (ys.map V.str)) (hz : (ys.map (·.length)).sum + ys.length * sep.length ≤ 16777216) :
    Ev (tM1 (fun x xs H Q => ∃ a p, ∃ ys : List Str, x = .str a ∧ xs = [.ref p] ∧ (SqL K H p (ys.map V.str) ∨ SqT K H p (ys.map V.str)) ∧ (ys.map (·.length)).sum + ys.length * a.length ≤ 16777216 ∧ Q (.str (Txt.join a ys)) H) to te) σ H (.str (TM.joinS sep ys)) := by
  intro H1 e Q q
  refine hs H1 e _ fun H2 e2 => ⟨⟨sep, rfl⟩, h H2 (e.trans e2) _ fun p H3 hp e3 hl => ⟨sep, p, ys, rfl, rfl, .inl (sq_of hl), hz, ?_⟩⟩
  have z : ∀ ys : List Str, Str.join sep ys = TM.joinS sep ys := by
    intro ys
    induction ys with
    | nil => rfl
    | cons x r ih =>
      cases r with
      | nil => rfl
      | cons y r =>
        show x ++ sep ++ Str.join sep (y :: r) = x ++ sep ++ TM.joinS sep (y :: r)
        rw [ih]
  rw [TL.join_eq, z]
  exact q H3 (e2.trans e3)
/-- each element of a list, computed: ys the values -/
theorem el_lmap {a : Addr} {xs ys : List V} {tl : TE} {j : Nat} {vs : List Nat} (h : Ev tl σ H (.ref a)) (hx : SqL K H a xs) (hz : xs.length ≤ 40000) (hl : xs.length = ys.length) (hw : ∀ x, wipe ((wipe σ vs).set j (some x)) vs = wipe σ vs)
    (he : ∀ (i : Nat) (x y : V) H1, Ex H H1 → xs[i]? = some x → ys[i]? = some y → Ev te ((wipe σ vs).set j (some x)) H1 y) :
    EvL (tLc (iList K tl) (gName j) tYes te vs) σ H ys := by
  have z : given xs.length (fun _ => true) (fun i => ys.getD i .non) = ys := by
    unfold given
    rw [List.filter_eq_self.mpr fun _ _ => rfl, hl]
    apply List.ext_getElem?
    intro i
    rw [List.getElem?_map]
    by_cases hi : i < ys.length
    · rw [List.getElem?_eq_getElem (by simpa using hi), List.getElem?_eq_getElem hi]
      simp [List.getD_eq_getElem?_getD, List.getElem?_eq_getElem hi]
    · rw [List.getElem?_eq_none (by simpa using hi), List.getElem?_eq_none (by omega)]
      rfl
  rw [← z]
  refine el_lcL (fun _ => true) _ h hx hz hw (fun i x H1 e hi => fun H2 e2 _ q => q H2 (Ex.refl H2)) (fun i x H1 e hi _ => ?_)
  have hi2 : i < ys.length := hl ▸ (List.getElem?_eq_some_iff.mp hi).1
  exact he i x _ H1 e hi (by rw [List.getElem?_eq_getElem hi2]; simp [List.getD_eq_getElem?_getD, List.getElem?_eq_getElem hi2])
end
section
variable {σ : L2.St} {H : Hp} {ta tb te : TE} {K : PySem.W.Frag}
/-- list + list, the first one wherever it stands -/
theorem el_cat {xs ys : List V} (ha : ∀ H1, Ex H H1 → ∀ Q : VK, (∀ p H2, Ex H1 H2 → H2 p = some (.lst xs) → Q (.ref p) H2) → ta σ H1 Q) (hb : EvL tb σ H ys) (hz : xs.length + ys.length ≤ 100000) : EvL (tOp rCat ta tb) σ H (xs ++ ys) := fun H1 e Q q =>
  ha H1 e _ fun p H2 e2 h2 => hb H2 (e.trans e2) _ fun p2 H3 _ e3 h3 => ⟨p, p2, xs, ys, rfl, rfl, e3 p _ h2, h3, sz_of hz, fun l hl => q l _ (fresh_back (e2.trans e3) hl) ((e2.trans e3).trans (Ex.new hl)) upd_same⟩
theorem of_ev {xs : List V} {p : Addr} (h : Ev ta σ H (.ref p)) (hp : H p = some (.lst xs)) : ∀ H1, Ex H H1 → ∀ Q : VK, (∀ p H2, Ex H1 H2 → H2 p = some (.lst xs) → Q (.ref p) H2) → ta σ H1 Q := fun H1 e Q q => h H1 e _ fun H2 e2 => q p H2 e2 (e2 p _ (e p _ hp))
theorem of_el {xs : List V} (h : EvL ta σ H xs) : ∀ H1, Ex H H1 → ∀ Q : VK, (∀ p H2, Ex H1 H2 → H2 p = some (.lst xs) → Q (.ref p) H2) → ta σ H1 Q := fun H1 e Q q => h H1 e _ fun p H2 _ e2 h2 => q p H2 e2 h2
theorem cut_to {xs : List V} {m : Nat} (h : m ≤ xs.length) : cutV xs none (some (m : Int)) = xs.take m := by
  unfold cutV
  rw [HT.sIx_none, HT.sIx_nat, Nat.min_eq_left h]
  rfl
theorem cut_from {xs : List V} {m : Nat} (h : m ≤ xs.length) : cutV xs (some (m : Int)) none = xs.drop m := by
  unfold cutV
  rw [HT.sIx_none, HT.sIx_nat, Nat.min_eq_left h, List.take_of_length_le (by rw [List.length_drop]; omega)]
theorem at_nat {xs : List V} {m : Nat} (h : m < xs.length) : atI xs (m : Int) = some xs[m] := by
  unfold atI
  rw [ixN_nat h]
  exact List.getElem?_eq_getElem h
end
/-! ### lists side by side -/
def A2 {α β : Type} (R : α → β → Prop) : List α → List β → Prop
  | [], [] => True
  | x :: xs, y :: ys => R x y ∧ A2 R xs ys
  | _, _ => False
section
variable {α β : Type} {R R' : α → β → Prop}
theorem A2.of : ∀ {xs : List α} {ys : List β}, xs.length = ys.length → (∀ (i : Nat) (x : α) (y : β), xs[i]? = some x → ys[i]? = some y → R x y) → A2 R xs ys
  | [], [], _, _ => trivial
  | [], _ :: _, h, _ => nomatch h
  | _ :: _, [], h, _ => nomatch h
  | x :: xs, y :: ys, h, k => ⟨k 0 x y rfl rfl, A2.of (Nat.succ.inj h) fun i a b p q => k (i + 1) a b p q⟩
theorem A2.len : ∀ {xs : List α} {ys : List β}, A2 R xs ys → xs.length = ys.length
  | [], [], _ => rfl
  | [], _ :: _, h => h.elim
  | _ :: _, [], h => h.elim
  | x :: xs, y :: ys, h => congrArg Nat.succ (A2.len h.2)
theorem A2.get : ∀ {xs : List α} {ys : List β}, A2 R xs ys → ∀ (i : Nat) (x : α) (y : β), xs[i]? = some x → ys[i]? = some y → R x y
  | [], _, _, _, _, _, p, _ => by simp at p
  | _ :: _, [], h, _, _, _, _, _ => h.elim
  | x :: xs, y :: ys, h, 0, a, b, p, q => by
    simp at p q
    subst p q
    exact h.1
  | x :: xs, y :: ys, h, i + 1, a, b, p, q => A2.get h.2 i a b (by simpa using p) (by simpa using q)
theorem A2.app : ∀ {xs : List α} {ys : List β} {zs : List α} {ws : List β}, A2 R xs ys → A2 R zs ws → A2 R (xs ++ zs) (ys ++ ws)
  | [], [], _, _, _, h => h
  | [], _ :: _, _, _, h, _ => h.elim
  | _ :: _, [], _, _, h, _ => h.elim
  | x :: xs, y :: ys, _, _, h, k => ⟨h.1, A2.app h.2 k⟩
theorem A2.take : ∀ {xs : List α} {ys : List β} (m : Nat), A2 R xs ys → A2 R (xs.take m) (ys.take m)
  | [], [], m, _ => by
    rw [List.take_nil, List.take_nil]
    exact trivial
  | [], _ :: _, _, h => h.elim
  | _ :: _, [], _, h => h.elim
  | x :: xs, y :: ys, 0, _ => trivial
  | x :: xs, y :: ys, m + 1, h => ⟨h.1, A2.take m h.2⟩
theorem A2.drop : ∀ {xs : List α} {ys : List β} (m : Nat), A2 R xs ys → A2 R (xs.drop m) (ys.drop m)
  | [], [], m, _ => by
    rw [List.drop_nil, List.drop_nil]
    exact trivial
  | [], _ :: _, _, h => h.elim
  | _ :: _, [], _, h => h.elim
  | x :: xs, y :: ys, 0, h => h
  | x :: xs, y :: ys, m + 1, h => A2.drop m h.2
theorem A2.rev : ∀ {xs : List α} {ys : List β}, A2 R xs ys → A2 R xs.reverse ys.reverse
  | [], [], _ => trivial
  | [], _ :: _, h => h.elim
  | _ :: _, [], h => h.elim
  | x :: xs, y :: ys, h => by
    rw [List.reverse_cons, List.reverse_cons]
    exact (A2.rev h.2).app ⟨h.1, trivial⟩
theorem A2.set : ∀ {xs : List α} {ys : List β} (m : Nat) {x : α} {y : β}, A2 R xs ys → R x y → A2 R (xs.set m x) (ys.set m y)
  | [], [], _, _, _, _, _ => trivial
  | [], _ :: _, _, _, _, h, _ => h.elim
  | _ :: _, [], _, _, _, h, _ => h.elim
  | x :: xs, y :: ys, 0, _, _, h, k => ⟨k, h.2⟩
  | x :: xs, y :: ys, m + 1, _, _, h, k => ⟨h.1, A2.set m h.2 k⟩
theorem A2.imp : ∀ {xs : List α} {ys : List β}, A2 R xs ys → (∀ x y, R x y → R' x y) → A2 R' xs ys
  | [], [], _, _ => trivial
  | [], _ :: _, h, _ => h.elim
  | _ :: _, [], h, _ => h.elim
  | x :: xs, y :: ys, h, k => ⟨k _ _ h.1, A2.imp h.2 k⟩
end
end LG
namespace K13
open PySem PySem.Spec PyProof.Rows L2 LG
def top (i : Nat) : Stmt := PySem.Challenge.pw_rankchances_k13_texts_and_equal_terms.main.body.getD i (.Pass ⟨0, 0, 0, 0⟩)
abbrev s__wall : Stmt := top 0
abbrev s_is_integer : Stmt := top 11
abbrev s_is_end : Stmt := top 12
abbrev s_is_value : Stmt := top 13
abbrev s_is_not_less : Stmt := top 14
abbrev s_least_of : Stmt := top 15
abbrev s_greatest_of : Stmt := top 16
abbrev s_is_place : Stmt := top 20
abbrev s_want_term : Stmt := top 21
abbrev s_want_terms : Stmt := top 22
abbrev s_depth_above : Stmt := top 23
abbrev s_want_values : Stmt := top 24
abbrev s_value_at : Stmt := top 25
abbrev s_places_in : Stmt := top 26
abbrev s_term_text : Stmt := top 27
abbrev s_term_repr : Stmt := top 28
abbrev s__law_pot : Stmt := top 35
abbrev s__law_draw : Stmt := top 36
abbrev s__law_pick : Stmt := top 37
abbrev s__law_places : Stmt := top 38
abbrev s__law_term : Stmt := top 39
abbrev s__law_joined : Stmt := top 40
abbrev s__law_real : Stmt := top 41
abbrev s__law_inner : Stmt := top 42
abbrev s__law_text : Stmt := top 43
abbrev s__law_written : Stmt := top 44
abbrev s__law_bent : Stmt := top 45
abbrev s__law_signs_right : Stmt := top 46
abbrev s__law_right : Stmt := top 47
abbrev s_law : Stmt := top 48
abbrev s_init : Stmt := inClass (top 2) 0
abbrev s_Term_init : Stmt := inClass (top 29) 0
abbrev s_Term_depth : Stmt := inClass (top 29) 1
abbrev s_Term_at : Stmt := inClass (top 29) 2
abbrev s_Term_places : Stmt := inClass (top 29) 3
abbrev s_Term_turned : Stmt := inClass (top 29) 4
abbrev s_Term_put : Stmt := inClass (top 29) 5
abbrev s_Term_and : Stmt := inClass (top 29) 6
abbrev s_Term_or : Stmt := inClass (top 29) 7
abbrev s_Term_str : Stmt := inClass (top 29) 8
abbrev s_Term_repr : Stmt := inClass (top 29) 9
abbrev s_Term_eq : Stmt := inClass (top 29) 10
abbrev s_Place_init : Stmt := inClass (top 30) 0
abbrev s_Place_name : Stmt := inClass (top 30) 1
abbrev s_End_init : Stmt := inClass (top 31) 0
abbrev s_End_end : Stmt := inClass (top 31) 1
abbrev s_Lesser_init : Stmt := inClass (top 32) 0
abbrev s_Lesser_parts : Stmt := inClass (top 32) 1
abbrev s_Greater_init : Stmt := inClass (top 33) 0
abbrev s_Greater_parts : Stmt := inClass (top 33) 1
theorem sc__wall : FnScope ["k"] ["k"] (defScope s__wall) := ⟨rfl, rfl, rfl, by decide +kernel, rfl, by decide +kernel, by decide +kernel⟩
theorem sc_is_integer : FnScope ["value"] ["value"] (defScope s_is_integer) := ⟨rfl, rfl, rfl, by decide +kernel, rfl, by decide +kernel, by decide +kernel⟩
theorem sc_is_end : FnScope ["value"] ["value"] (defScope s_is_end) := ⟨rfl, rfl, rfl, by decide +kernel, rfl, by decide +kernel, by decide +kernel⟩
theorem sc_is_value : FnScope ["value"] ["value"] (defScope s_is_value) := ⟨rfl, rfl, rfl, by decide +kernel, rfl, by decide +kernel, by decide +kernel⟩
theorem sc_is_not_less : FnScope ["one", "other"] ["one", "other"] (defScope s_is_not_less) := ⟨rfl, rfl, rfl, by decide +kernel, rfl, by decide +kernel, by decide +kernel⟩
theorem sc_least_of : FnScope ["values", "found", "value"] ["values"] (defScope s_least_of) := ⟨rfl, rfl, rfl, by decide +kernel, rfl, by decide +kernel, by decide +kernel⟩
theorem sc_greatest_of : FnScope ["values", "found", "value"] ["values"] (defScope s_greatest_of) := ⟨rfl, rfl, rfl, by decide +kernel, rfl, by decide +kernel, by decide +kernel⟩
theorem sc_is_place : FnScope ["value"] ["value"] (defScope s_is_place) := ⟨rfl, rfl, rfl, by decide +kernel, rfl, by decide +kernel, by decide +kernel⟩
theorem sc_want_term : FnScope ["value"] ["value"] (defScope s_want_term) := ⟨rfl, rfl, rfl, by decide +kernel, rfl, by decide +kernel, by decide +kernel⟩
theorem sc_want_terms : FnScope ["values", "value"] ["values"] (defScope s_want_terms) := ⟨rfl, rfl, rfl, by decide +kernel, rfl, by decide +kernel, by decide +kernel⟩
theorem sc_depth_above : FnScope ["terms", "term"] ["terms"] (defScope s_depth_above) := ⟨rfl, rfl, rfl, by decide +kernel, rfl, by decide +kernel, by decide +kernel⟩
theorem sc_want_values : FnScope ["values", "places", "place"] ["values", "places"] (defScope s_want_values) := ⟨rfl, rfl, rfl, by decide +kernel, rfl, by decide +kernel, by decide +kernel⟩
theorem sc_value_at : FnScope ["term", "values", "found", "part"] ["term", "values"] (defScope s_value_at) := ⟨rfl, rfl, rfl, by decide +kernel, rfl, by decide +kernel, by decide +kernel⟩
theorem sc_places_in : FnScope ["term", "found", "part"] ["term"] (defScope s_places_in) := ⟨rfl, rfl, rfl, by decide +kernel, rfl, by decide +kernel, by decide +kernel⟩
theorem sc_term_text : FnScope ["term", "texts", "part"] ["term"] (defScope s_term_text) := ⟨rfl, rfl, rfl, by decide +kernel, rfl, by decide +kernel, by decide +kernel⟩
theorem sc_term_repr : FnScope ["term", "inner", "part"] ["term"] (defScope s_term_repr) := ⟨rfl, rfl, rfl, by decide +kernel, rfl, by decide +kernel, by decide +kernel⟩
theorem sc__law_pot : FnScope ["script", "k", "cell"] ["script", "k"] (defScope s__law_pot) := ⟨rfl, rfl, rfl, by decide +kernel, rfl, by decide +kernel, by decide +kernel⟩
theorem sc__law_draw : FnScope ["pot", "many", "digit"] ["pot", "many"] (defScope s__law_draw) := ⟨rfl, rfl, rfl, by decide +kernel, rfl, by decide +kernel, by decide +kernel⟩
theorem sc__law_pick : FnScope ["pot", "some"] ["pot", "some"] (defScope s__law_pick) := ⟨rfl, rfl, rfl, by decide +kernel, rfl, by decide +kernel, by decide +kernel⟩
theorem sc__law_places : FnScope ["pot", "left", "turn"] ["pot"] (defScope s__law_places) := ⟨rfl, rfl, rfl, by decide +kernel, rfl, by decide +kernel, by decide +kernel⟩
theorem sc__law_term : FnScope ["pot", "places", "deep", "way", "word", "turn"] ["pot", "places", "deep"] (defScope s__law_term) := ⟨rfl, rfl, rfl, by decide +kernel, rfl, by decide +kernel, by decide +kernel⟩
theorem sc__law_joined : FnScope ["word", "p"] ["word", "p"] (defScope s__law_joined) := ⟨rfl, rfl, rfl, by decide +kernel, rfl, by decide +kernel, by decide +kernel⟩
theorem sc__law_real : FnScope ["term", "part"] ["term"] (defScope s__law_real) := ⟨rfl, rfl, rfl, by decide +kernel, rfl, by decide +kernel, by decide +kernel⟩
theorem sc__law_inner : FnScope ["term"] ["term"] (defScope s__law_inner) := ⟨rfl, rfl, rfl, by decide +kernel, rfl, by decide +kernel, by decide +kernel⟩
theorem sc__law_text : FnScope ["term", "part"] ["term"] (defScope s__law_text) := ⟨rfl, rfl, rfl, by decide +kernel, rfl, by decide +kernel, by decide +kernel⟩
theorem sc__law_written : FnScope ["term", "word", "part"] ["term"] (defScope s__law_written) := ⟨rfl, rfl, rfl, by decide +kernel, rfl, by decide +kernel, by decide +kernel⟩
theorem sc__law_bent : FnScope ["pot", "term", "places", "way", "at", "parts"] ["pot", "term", "places"] (defScope s__law_bent) := ⟨rfl, rfl, rfl, by decide +kernel, rfl, by decide +kernel, by decide +kernel⟩
theorem sc__law_signs_right : FnScope ["made", "term", "other", "real", "pairs", "one", "model"] ["made", "term", "other"] (defScope s__law_signs_right) := ⟨rfl, rfl, rfl, by decide +kernel, rfl, by decide +kernel, by decide +kernel⟩
theorem sc__law_right : FnScope ["pot", "places", "made", "near", "model", "things", "term", "other", "twin", "told", "turn", "thing"] ["pot"] (defScope s__law_right) := ⟨rfl, rfl, rfl, by decide +kernel, rfl, by decide +kernel, by decide +kernel⟩
theorem sc_law : FnScope ["script", "k"] ["script"] (defScope s_law) := ⟨rfl, rfl, rfl, by decide +kernel, rfl, by decide +kernel, by decide +kernel⟩
theorem sc_Term_init : FnScope ["self", "depth"] ["self", "depth"] (defScope s_Term_init) := ⟨rfl, rfl, rfl, by decide +kernel, rfl, by decide +kernel, by decide +kernel⟩
theorem sc_Term_depth : FnScope ["self"] ["self"] (defScope s_Term_depth) := ⟨rfl, rfl, rfl, by decide +kernel, rfl, by decide +kernel, by decide +kernel⟩
theorem sc_Term_at : FnScope ["self", "values"] ["self", "values"] (defScope s_Term_at) := ⟨rfl, rfl, rfl, by decide +kernel, rfl, by decide +kernel, by decide +kernel⟩
theorem sc_Term_places : FnScope ["self", "place"] ["self"] (defScope s_Term_places) := ⟨rfl, rfl, rfl, by decide +kernel, rfl, by decide +kernel, by decide +kernel⟩
theorem sc_Term_turned : FnScope ["self"] ["self"] (defScope s_Term_turned) := ⟨rfl, rfl, rfl, by decide +kernel, rfl, by decide +kernel, by decide +kernel⟩
theorem sc_Term_put : FnScope ["self", "terms"] ["self", "terms"] (defScope s_Term_put) := ⟨rfl, rfl, rfl, by decide +kernel, rfl, by decide +kernel, by decide +kernel⟩
theorem sc_Term_and : FnScope ["self", "other"] ["self", "other"] (defScope s_Term_and) := ⟨rfl, rfl, rfl, by decide +kernel, rfl, by decide +kernel, by decide +kernel⟩
theorem sc_Term_or : FnScope ["self", "other"] ["self", "other"] (defScope s_Term_or) := ⟨rfl, rfl, rfl, by decide +kernel, rfl, by decide +kernel, by decide +kernel⟩
theorem sc_Term_str : FnScope ["self"] ["self"] (defScope s_Term_str) := ⟨rfl, rfl, rfl, by decide +kernel, rfl, by decide +kernel, by decide +kernel⟩
theorem sc_Term_repr : FnScope ["self"] ["self"] (defScope s_Term_repr) := ⟨rfl, rfl, rfl, by decide +kernel, rfl, by decide +kernel, by decide +kernel⟩
theorem sc_Term_eq : FnScope ["self", "other"] ["self", "other"] (defScope s_Term_eq) := ⟨rfl, rfl, rfl, by decide +kernel, rfl, by decide +kernel, by decide +kernel⟩
theorem sc_Place_init : NdefX.NScope ["self", "name", "__class__"] ["self", "name"] ["__class__"] (defScope s_Place_init) := NdefX.nscope_by (by decide +kernel)
theorem sc_Place_name : FnScope ["self"] ["self"] (defScope s_Place_name) := ⟨rfl, rfl, rfl, by decide +kernel, rfl, by decide +kernel, by decide +kernel⟩
theorem sc_End_init : NdefX.NScope ["self", "end", "__class__"] ["self", "end"] ["__class__"] (defScope s_End_init) := NdefX.nscope_by (by decide +kernel)
theorem sc_End_end : FnScope ["self"] ["self"] (defScope s_End_end) := ⟨rfl, rfl, rfl, by decide +kernel, rfl, by decide +kernel, by decide +kernel⟩
theorem sc_Lesser_init : NdefX.NScope ["self", "terms", "__class__"] ["self", "terms"] ["__class__"] (defScope s_Lesser_init) := NdefX.nscope_by (by decide +kernel)
theorem sc_Lesser_parts : FnScope ["self"] ["self"] (defScope s_Lesser_parts) := ⟨rfl, rfl, rfl, by decide +kernel, rfl, by decide +kernel, by decide +kernel⟩
theorem sc_Greater_init : NdefX.NScope ["self", "terms", "__class__"] ["self", "terms"] ["__class__"] (defScope s_Greater_init) := NdefX.nscope_by (by decide +kernel)
theorem sc_Greater_parts : FnScope ["self"] ["self"] (defScope s_Greater_parts) := ⟨rfl, rfl, rfl, by decide +kernel, rfl, by decide +kernel, by decide +kernel⟩
theorem sc_init : FnScope ["self", "value"] ["self", "value"] (defScope s_init) := ⟨rfl, rfl, rfl, by decide +kernel, rfl, by decide +kernel, by decide +kernel⟩
/-- where the things of the top stand -/
structure At where
  c_HeldError : Addr
  c_InvalidPlace : Addr
  c_InvalidEnd : Addr
  c_InvalidTerm : Addr
  c_InvalidValues : Addr
  k_Term : Addr
  k_Place : Addr
  k_End : Addr
  k_Lesser : Addr
  k_Greater : Addr
  init : Addr
  _wall : Addr
  is_integer : Addr
  is_end : Addr
  is_value : Addr
  is_not_less : Addr
  least_of : Addr
  greatest_of : Addr
  is_place : Addr
  want_term : Addr
  want_terms : Addr
  depth_above : Addr
  want_values : Addr
  value_at : Addr
  places_in : Addr
  term_text : Addr
  term_repr : Addr
  _law_pot : Addr
  _law_draw : Addr
  _law_pick : Addr
  _law_places : Addr
  _law_term : Addr
  _law_joined : Addr
  _law_real : Addr
  _law_inner : Addr
  _law_text : Addr
  _law_written : Addr
  _law_bent : Addr
  _law_signs_right : Addr
  _law_right : Addr
  law : Addr
  m_Term_init : Addr
  m_Term_depth : Addr
  p_Term_depth : Addr
  m_Term_at : Addr
  m_Term_places : Addr
  m_Term_turned : Addr
  m_Term_put : Addr
  m_Term_and : Addr
  m_Term_or : Addr
  m_Term_str : Addr
  m_Term_repr : Addr
  m_Term_eq : Addr
  m_Place_init : Addr
  w_Place_init : Addr
  o_Place_init : Addr
  m_Place_name : Addr
  p_Place_name : Addr
  m_End_init : Addr
  w_End_init : Addr
  o_End_init : Addr
  m_End_end : Addr
  p_End_end : Addr
  m_Lesser_init : Addr
  w_Lesser_init : Addr
  o_Lesser_init : Addr
  m_Lesser_parts : Addr
  p_Lesser_parts : Addr
  m_Greater_init : Addr
  w_Greater_init : Addr
  o_Greater_init : Addr
  m_Greater_parts : Addr
  p_Greater_parts : Addr
  t_BOTTOM : Tok
  t_TOP : Tok
  t_LEAST_PARTS : Tok
  ENDS : Addr
  PLACES : Addr
/-- a def of the text as the top has left it -/
structure GFn (K : PySem.W.Frag) (mg : Str → Option Value) (x : Str) (st : Stmt) (f : Addr) : Prop where
  m : mg x = some (.ref f)
  F : ∃ fd, Fun K x x st f fd
theorem GFn.kp {K : PySem.W.Frag} {mg : Str → Option Value} {x : Str} {st : Stmt} {f : Addr} (g : GFn K mg x st f) : PySem.W.keepIn K (.ref f) = true := let ⟨_, h⟩ := g.F; h.kp
/-- an error class: its __init__ is the base's -/
structure GEx (K : PySem.W.Frag) (mg : Str → Option Value) (x : Str) (C fI : Addr) : Prop where
  m : mg x = some (.ref C)
  o : OexC K C
  i : PySem.W.findIn K (.ref C) "__init__" = some (some (.ref fI))
  v : PySem.W.findIn K (.ref C) "value" = some none
  xf : XfC K C
  is : ExcC K C
/-- a method of an own class -/
structure GMe (K : PySem.W.Frag) (x qual : Str) (st : Stmt) (f : Addr) : Prop where
  F : ∃ fd, Fun K x qual st f fd
  fn : PySem.W.isFn K (.ref f) = true
/-- an own class that is made -/
structure GCl (K : PySem.W.Frag) (mg : Str → Option Value) (x : Str) (C : Addr) : Prop where
  m : mg x = some (.ref C)
  cl : Cls K C
  ha : PySem.W.findIn K (.ref C) "__class__" = some (some (.builtin "object.__class__"))
  hm : PySem.W.mroIn K C (.type "object") = some true
  ne : PySem.W.findIn K (.ref C) "__ne__" = some (some (.builtin "object.__ne__"))
  ki : PySem.W.clsIn K C ≠ none ∧ PySem.W.typeIn K (.ref C) = some (.type "type")
structure Txt (K : PySem.W.Frag) (mg : Str → Option Value) (a : At) : Prop where
  d__wall : GFn K mg "_wall" s__wall a._wall
  d_is_integer : GFn K mg "is_integer" s_is_integer a.is_integer
  d_is_end : GFn K mg "is_end" s_is_end a.is_end
  d_is_value : GFn K mg "is_value" s_is_value a.is_value
  d_is_not_less : GFn K mg "is_not_less" s_is_not_less a.is_not_less
  d_least_of : GFn K mg "least_of" s_least_of a.least_of
  d_greatest_of : GFn K mg "greatest_of" s_greatest_of a.greatest_of
  d_is_place : GFn K mg "is_place" s_is_place a.is_place
  d_want_term : GFn K mg "want_term" s_want_term a.want_term
  d_want_terms : GFn K mg "want_terms" s_want_terms a.want_terms
  d_depth_above : GFn K mg "depth_above" s_depth_above a.depth_above
  d_want_values : GFn K mg "want_values" s_want_values a.want_values
  d_value_at : GFn K mg "value_at" s_value_at a.value_at
  d_places_in : GFn K mg "places_in" s_places_in a.places_in
  d_term_text : GFn K mg "term_text" s_term_text a.term_text
  d_term_repr : GFn K mg "term_repr" s_term_repr a.term_repr
  d__law_pot : GFn K mg "_law_pot" s__law_pot a._law_pot
  d__law_draw : GFn K mg "_law_draw" s__law_draw a._law_draw
  d__law_pick : GFn K mg "_law_pick" s__law_pick a._law_pick
  d__law_places : GFn K mg "_law_places" s__law_places a._law_places
  d__law_term : GFn K mg "_law_term" s__law_term a._law_term
  d__law_joined : GFn K mg "_law_joined" s__law_joined a._law_joined
  d__law_real : GFn K mg "_law_real" s__law_real a._law_real
  d__law_inner : GFn K mg "_law_inner" s__law_inner a._law_inner
  d__law_text : GFn K mg "_law_text" s__law_text a._law_text
  d__law_written : GFn K mg "_law_written" s__law_written a._law_written
  d__law_bent : GFn K mg "_law_bent" s__law_bent a._law_bent
  d__law_signs_right : GFn K mg "_law_signs_right" s__law_signs_right a._law_signs_right
  d__law_right : GFn K mg "_law_right" s__law_right a._law_right
  d_law : GFn K mg "law" s_law a.law
  z_abs : mg "abs" = none
  z_all : mg "all" = none
  z_any : mg "any" = none
  z_bool : mg "bool" = none
  z_dict : mg "dict" = none
  z_divmod : mg "divmod" = none
  z_int : mg "int" = none
  z_isinstance : mg "isinstance" = none
  z_len : mg "len" = none
  z_list : mg "list" = none
  z_max : mg "max" = none
  z_min : mg "min" = none
  z_property : mg "property" = none
  z_range : mg "range" = none
  z_repr : mg "repr" = none
  z_sorted : mg "sorted" = none
  z_str : mg "str" = none
  z_super : mg "super" = none
  v_BOTTOM : mg "BOTTOM" = some (.str "bottom" a.t_BOTTOM)
  v_TOP : mg "TOP" = some (.str "top" a.t_TOP)
  v_LEAST_PARTS : mg "LEAST_PARTS" = some (.int 2 a.t_LEAST_PARTS)
  v_ENDS : mg "ENDS" = some (.ref a.ENDS)
  l_ENDS : ∃ (od : Option Addr) (its : List Value) (n : Nat) (sl : Array (Option Value)), K.lookup a.ENDS = some ⟨.type "tuple", od, .seq its.toArray n, sl⟩ ∧ Vals [.str "bottom", .str "top"] its
  v_PLACES : mg "PLACES" = some (.ref a.PLACES)
  l_PLACES : ∃ (od : Option Addr) (its : List Value) (n : Nat) (sl : Array (Option Value)), K.lookup a.PLACES = some ⟨.type "tuple", od, .seq its.toArray n, sl⟩ ∧ Vals [.str "r0", .str "r1", .str "r2", .str "r3", .str "r4", .str "r5", .str "x0", .str "x1"] its
  e_HeldError : GEx K mg "HeldError" a.c_HeldError a.init
  e_InvalidPlace : GEx K mg "InvalidPlace" a.c_InvalidPlace a.init
  e_InvalidEnd : GEx K mg "InvalidEnd" a.c_InvalidEnd a.init
  e_InvalidTerm : GEx K mg "InvalidTerm" a.c_InvalidTerm a.init
  e_InvalidValues : GEx K mg "InvalidValues" a.c_InvalidValues a.init
  ti : PySem.W.typeIn K (.ref a.init) = some (.type "function")
  di : ∃ fd, FunD K "__init__" "HeldError.__init__" (defArgs s_init) (defBody s_init) (defScope s_init) [.non] [] a.init fd
  hn : PySem.W.specialIn K (.builtin "object.__class__") "__get__" = some (some (.builtin "getset_descriptor.__get__"))
  htk : PySem.W.takesIn K (.builtin "object.__class__") = some true
  any : PySem.W.nsIn K cStatics "thirdparty.any" = some none
  g_Term : GCl K mg "Term" a.k_Term
  g_Place : GCl K mg "Place" a.k_Place
  g_End : GCl K mg "End" a.k_End
  g_Lesser : GCl K mg "Lesser" a.k_Lesser
  g_Greater : GCl K mg "Greater" a.k_Greater
  m_Term_init : GMe K "__init__" "Term.__init__" s_Term_init a.m_Term_init
  m_Term_depth : GMe K "depth" "Term.depth" s_Term_depth a.m_Term_depth
  m_Term_at : GMe K "at" "Term.at" s_Term_at a.m_Term_at
  m_Term_places : GMe K "places" "Term.places" s_Term_places a.m_Term_places
  m_Term_turned : GMe K "turned" "Term.turned" s_Term_turned a.m_Term_turned
  m_Term_put : GMe K "put" "Term.put" s_Term_put a.m_Term_put
  m_Term_and : GMe K "__and__" "Term.__and__" s_Term_and a.m_Term_and
  m_Term_or : GMe K "__or__" "Term.__or__" s_Term_or a.m_Term_or
  m_Term_str : GMe K "__str__" "Term.__str__" s_Term_str a.m_Term_str
  m_Term_repr : GMe K "__repr__" "Term.__repr__" s_Term_repr a.m_Term_repr
  m_Term_eq : GMe K "__eq__" "Term.__eq__" s_Term_eq a.m_Term_eq
  m_Place_init : FunS K "__init__" "Place.__init__" s_Place_init a.w_Place_init a.o_Place_init a.k_Place a.m_Place_init
  m_Place_name : GMe K "name" "Place.name" s_Place_name a.m_Place_name
  m_End_init : FunS K "__init__" "End.__init__" s_End_init a.w_End_init a.o_End_init a.k_End a.m_End_init
  m_End_end : GMe K "end" "End.end" s_End_end a.m_End_end
  m_Lesser_init : FunS K "__init__" "Lesser.__init__" s_Lesser_init a.w_Lesser_init a.o_Lesser_init a.k_Lesser a.m_Lesser_init
  m_Lesser_parts : GMe K "parts" "Lesser.parts" s_Lesser_parts a.m_Lesser_parts
  m_Greater_init : FunS K "__init__" "Greater.__init__" s_Greater_init a.w_Greater_init a.o_Greater_init a.k_Greater a.m_Greater_init
  m_Greater_parts : GMe K "parts" "Greater.parts" s_Greater_parts a.m_Greater_parts
  f_Term_init : PySem.W.findIn K (.ref a.k_Term) "__init__" = some (some (.ref a.m_Term_init))
  p_Term_depth : PropOf K a.k_Term "depth" a.p_Term_depth a.m_Term_depth
  f_Term_at : PySem.W.findIn K (.ref a.k_Term) "at" = some (some (.ref a.m_Term_at))
  f_Term_places : PySem.W.findIn K (.ref a.k_Term) "places" = some (some (.ref a.m_Term_places))
  f_Term_turned : PySem.W.findIn K (.ref a.k_Term) "turned" = some (some (.ref a.m_Term_turned))
  f_Term_put : PySem.W.findIn K (.ref a.k_Term) "put" = some (some (.ref a.m_Term_put))
  f_Term_and : PySem.W.findIn K (.ref a.k_Term) "__and__" = some (some (.ref a.m_Term_and))
  f_Term_or : PySem.W.findIn K (.ref a.k_Term) "__or__" = some (some (.ref a.m_Term_or))
  f_Term_str : PySem.W.findIn K (.ref a.k_Term) "__str__" = some (some (.ref a.m_Term_str))
  f_Term_repr : PySem.W.findIn K (.ref a.k_Term) "__repr__" = some (some (.ref a.m_Term_repr))
  f_Term_eq : PySem.W.findIn K (.ref a.k_Term) "__eq__" = some (some (.ref a.m_Term_eq))
  mk_Term : Mk K a.k_Term a.m_Term_init
  first_Term : PySem.W.selfFirst K a.k_Term = true
  rand_Term : PySem.W.findIn K (.ref a.k_Term) (PySem.dunderR "and") = some none
  ror_Term : PySem.W.findIn K (.ref a.k_Term) (PySem.dunderR "or") = some none
  na_Term_own_depth : NoAttr K a.k_Term "own_depth"
  f_Place_init : PySem.W.findIn K (.ref a.k_Place) "__init__" = some (some (.ref a.m_Place_init))
  p_Place_name : PropOf K a.k_Place "name" a.p_Place_name a.m_Place_name
  p_Place_depth : PropOf K a.k_Place "depth" a.p_Term_depth a.m_Term_depth
  f_Place_at : PySem.W.findIn K (.ref a.k_Place) "at" = some (some (.ref a.m_Term_at))
  f_Place_places : PySem.W.findIn K (.ref a.k_Place) "places" = some (some (.ref a.m_Term_places))
  f_Place_turned : PySem.W.findIn K (.ref a.k_Place) "turned" = some (some (.ref a.m_Term_turned))
  f_Place_put : PySem.W.findIn K (.ref a.k_Place) "put" = some (some (.ref a.m_Term_put))
  f_Place_and : PySem.W.findIn K (.ref a.k_Place) "__and__" = some (some (.ref a.m_Term_and))
  f_Place_or : PySem.W.findIn K (.ref a.k_Place) "__or__" = some (some (.ref a.m_Term_or))
  f_Place_str : PySem.W.findIn K (.ref a.k_Place) "__str__" = some (some (.ref a.m_Term_str))
  f_Place_repr : PySem.W.findIn K (.ref a.k_Place) "__repr__" = some (some (.ref a.m_Term_repr))
  f_Place_eq : PySem.W.findIn K (.ref a.k_Place) "__eq__" = some (some (.ref a.m_Term_eq))
  s_Place : SupC K a.k_Place a.k_Place a.m_Term_init "__init__"
  mk_Place : Mk K a.k_Place a.m_Place_init
  first_Place : PySem.W.selfFirst K a.k_Place = true
  rand_Place : PySem.W.findIn K (.ref a.k_Place) (PySem.dunderR "and") = some none
  ror_Place : PySem.W.findIn K (.ref a.k_Place) (PySem.dunderR "or") = some none
  na_Place_own_depth : NoAttr K a.k_Place "own_depth"
  na_Place_own_name : NoAttr K a.k_Place "own_name"
  f_End_init : PySem.W.findIn K (.ref a.k_End) "__init__" = some (some (.ref a.m_End_init))
  p_End_end : PropOf K a.k_End "end" a.p_End_end a.m_End_end
  p_End_depth : PropOf K a.k_End "depth" a.p_Term_depth a.m_Term_depth
  f_End_at : PySem.W.findIn K (.ref a.k_End) "at" = some (some (.ref a.m_Term_at))
  f_End_places : PySem.W.findIn K (.ref a.k_End) "places" = some (some (.ref a.m_Term_places))
  f_End_turned : PySem.W.findIn K (.ref a.k_End) "turned" = some (some (.ref a.m_Term_turned))
  f_End_put : PySem.W.findIn K (.ref a.k_End) "put" = some (some (.ref a.m_Term_put))
  f_End_and : PySem.W.findIn K (.ref a.k_End) "__and__" = some (some (.ref a.m_Term_and))
  f_End_or : PySem.W.findIn K (.ref a.k_End) "__or__" = some (some (.ref a.m_Term_or))
  f_End_str : PySem.W.findIn K (.ref a.k_End) "__str__" = some (some (.ref a.m_Term_str))
  f_End_repr : PySem.W.findIn K (.ref a.k_End) "__repr__" = some (some (.ref a.m_Term_repr))
  f_End_eq : PySem.W.findIn K (.ref a.k_End) "__eq__" = some (some (.ref a.m_Term_eq))
  s_End : SupC K a.k_End a.k_End a.m_Term_init "__init__"
  mk_End : Mk K a.k_End a.m_End_init
  first_End : PySem.W.selfFirst K a.k_End = true
  rand_End : PySem.W.findIn K (.ref a.k_End) (PySem.dunderR "and") = some none
  ror_End : PySem.W.findIn K (.ref a.k_End) (PySem.dunderR "or") = some none
  na_End_own_depth : NoAttr K a.k_End "own_depth"
  na_End_own_end : NoAttr K a.k_End "own_end"
  f_Lesser_init : PySem.W.findIn K (.ref a.k_Lesser) "__init__" = some (some (.ref a.m_Lesser_init))
  p_Lesser_parts : PropOf K a.k_Lesser "parts" a.p_Lesser_parts a.m_Lesser_parts
  p_Lesser_depth : PropOf K a.k_Lesser "depth" a.p_Term_depth a.m_Term_depth
  f_Lesser_at : PySem.W.findIn K (.ref a.k_Lesser) "at" = some (some (.ref a.m_Term_at))
  f_Lesser_places : PySem.W.findIn K (.ref a.k_Lesser) "places" = some (some (.ref a.m_Term_places))
  f_Lesser_turned : PySem.W.findIn K (.ref a.k_Lesser) "turned" = some (some (.ref a.m_Term_turned))
  f_Lesser_put : PySem.W.findIn K (.ref a.k_Lesser) "put" = some (some (.ref a.m_Term_put))
  f_Lesser_and : PySem.W.findIn K (.ref a.k_Lesser) "__and__" = some (some (.ref a.m_Term_and))
  f_Lesser_or : PySem.W.findIn K (.ref a.k_Lesser) "__or__" = some (some (.ref a.m_Term_or))
  f_Lesser_str : PySem.W.findIn K (.ref a.k_Lesser) "__str__" = some (some (.ref a.m_Term_str))
  f_Lesser_repr : PySem.W.findIn K (.ref a.k_Lesser) "__repr__" = some (some (.ref a.m_Term_repr))
  f_Lesser_eq : PySem.W.findIn K (.ref a.k_Lesser) "__eq__" = some (some (.ref a.m_Term_eq))
  s_Lesser : SupC K a.k_Lesser a.k_Lesser a.m_Term_init "__init__"
  mk_Lesser : Mk K a.k_Lesser a.m_Lesser_init
  first_Lesser : PySem.W.selfFirst K a.k_Lesser = true
  rand_Lesser : PySem.W.findIn K (.ref a.k_Lesser) (PySem.dunderR "and") = some none
  ror_Lesser : PySem.W.findIn K (.ref a.k_Lesser) (PySem.dunderR "or") = some none
  na_Lesser_own_depth : NoAttr K a.k_Lesser "own_depth"
  na_Lesser_own_parts : NoAttr K a.k_Lesser "own_parts"
  f_Greater_init : PySem.W.findIn K (.ref a.k_Greater) "__init__" = some (some (.ref a.m_Greater_init))
  p_Greater_parts : PropOf K a.k_Greater "parts" a.p_Greater_parts a.m_Greater_parts
  p_Greater_depth : PropOf K a.k_Greater "depth" a.p_Term_depth a.m_Term_depth
  f_Greater_at : PySem.W.findIn K (.ref a.k_Greater) "at" = some (some (.ref a.m_Term_at))
  f_Greater_places : PySem.W.findIn K (.ref a.k_Greater) "places" = some (some (.ref a.m_Term_places))
  f_Greater_turned : PySem.W.findIn K (.ref a.k_Greater) "turned" = some (some (.ref a.m_Term_turned))
  f_Greater_put : PySem.W.findIn K (.ref a.k_Greater) "put" = some (some (.ref a.m_Term_put))
  f_Greater_and : PySem.W.findIn K (.ref a.k_Greater) "__and__" = some (some (.ref a.m_Term_and))
  f_Greater_or : PySem.W.findIn K (.ref a.k_Greater) "__or__" = some (some (.ref a.m_Term_or))
  f_Greater_str : PySem.W.findIn K (.ref a.k_Greater) "__str__" = some (some (.ref a.m_Term_str))
  f_Greater_repr : PySem.W.findIn K (.ref a.k_Greater) "__repr__" = some (some (.ref a.m_Term_repr))
  f_Greater_eq : PySem.W.findIn K (.ref a.k_Greater) "__eq__" = some (some (.ref a.m_Term_eq))
  s_Greater : SupC K a.k_Greater a.k_Greater a.m_Term_init "__init__"
  mk_Greater : Mk K a.k_Greater a.m_Greater_init
  first_Greater : PySem.W.selfFirst K a.k_Greater = true
  rand_Greater : PySem.W.findIn K (.ref a.k_Greater) (PySem.dunderR "and") = some none
  ror_Greater : PySem.W.findIn K (.ref a.k_Greater) (PySem.dunderR "or") = some none
  na_Greater_own_depth : NoAttr K a.k_Greater "own_depth"
  na_Greater_own_parts : NoAttr K a.k_Greater "own_parts"
  x_Term_Term : PySem.W.subIn K (.ref a.k_Term) (.ref a.k_Term) = some true
  x_Term_Place : PySem.W.subIn K (.ref a.k_Term) (.ref a.k_Place) = some false
  x_Term_End : PySem.W.subIn K (.ref a.k_Term) (.ref a.k_End) = some false
  x_Term_Lesser : PySem.W.subIn K (.ref a.k_Term) (.ref a.k_Lesser) = some false
  x_Term_Greater : PySem.W.subIn K (.ref a.k_Term) (.ref a.k_Greater) = some false
  x_Place_Term : PySem.W.subIn K (.ref a.k_Place) (.ref a.k_Term) = some true
  x_Place_Place : PySem.W.subIn K (.ref a.k_Place) (.ref a.k_Place) = some true
  x_Place_End : PySem.W.subIn K (.ref a.k_Place) (.ref a.k_End) = some false
  x_Place_Lesser : PySem.W.subIn K (.ref a.k_Place) (.ref a.k_Lesser) = some false
  x_Place_Greater : PySem.W.subIn K (.ref a.k_Place) (.ref a.k_Greater) = some false
  x_End_Term : PySem.W.subIn K (.ref a.k_End) (.ref a.k_Term) = some true
  x_End_Place : PySem.W.subIn K (.ref a.k_End) (.ref a.k_Place) = some false
  x_End_End : PySem.W.subIn K (.ref a.k_End) (.ref a.k_End) = some true
  x_End_Lesser : PySem.W.subIn K (.ref a.k_End) (.ref a.k_Lesser) = some false
  x_End_Greater : PySem.W.subIn K (.ref a.k_End) (.ref a.k_Greater) = some false
  x_Lesser_Term : PySem.W.subIn K (.ref a.k_Lesser) (.ref a.k_Term) = some true
  x_Lesser_Place : PySem.W.subIn K (.ref a.k_Lesser) (.ref a.k_Place) = some false
  x_Lesser_End : PySem.W.subIn K (.ref a.k_Lesser) (.ref a.k_End) = some false
  x_Lesser_Lesser : PySem.W.subIn K (.ref a.k_Lesser) (.ref a.k_Lesser) = some true
  x_Lesser_Greater : PySem.W.subIn K (.ref a.k_Lesser) (.ref a.k_Greater) = some false
  x_Greater_Term : PySem.W.subIn K (.ref a.k_Greater) (.ref a.k_Term) = some true
  x_Greater_Place : PySem.W.subIn K (.ref a.k_Greater) (.ref a.k_Place) = some false
  x_Greater_End : PySem.W.subIn K (.ref a.k_Greater) (.ref a.k_End) = some false
  x_Greater_Lesser : PySem.W.subIn K (.ref a.k_Greater) (.ref a.k_Lesser) = some false
  x_Greater_Greater : PySem.W.subIn K (.ref a.k_Greater) (.ref a.k_Greater) = some true
  x_HeldError_HeldError : PySem.W.subIn K (.ref a.c_HeldError) (.ref a.c_HeldError) = some true
  x_HeldError_InvalidPlace : PySem.W.subIn K (.ref a.c_HeldError) (.ref a.c_InvalidPlace) = some false
  x_HeldError_InvalidEnd : PySem.W.subIn K (.ref a.c_HeldError) (.ref a.c_InvalidEnd) = some false
  x_HeldError_InvalidTerm : PySem.W.subIn K (.ref a.c_HeldError) (.ref a.c_InvalidTerm) = some false
  x_HeldError_InvalidValues : PySem.W.subIn K (.ref a.c_HeldError) (.ref a.c_InvalidValues) = some false
  x_InvalidPlace_HeldError : PySem.W.subIn K (.ref a.c_InvalidPlace) (.ref a.c_HeldError) = some true
  x_InvalidPlace_InvalidPlace : PySem.W.subIn K (.ref a.c_InvalidPlace) (.ref a.c_InvalidPlace) = some true
  x_InvalidPlace_InvalidEnd : PySem.W.subIn K (.ref a.c_InvalidPlace) (.ref a.c_InvalidEnd) = some false
  x_InvalidPlace_InvalidTerm : PySem.W.subIn K (.ref a.c_InvalidPlace) (.ref a.c_InvalidTerm) = some false
  x_InvalidPlace_InvalidValues : PySem.W.subIn K (.ref a.c_InvalidPlace) (.ref a.c_InvalidValues) = some false
  x_InvalidEnd_HeldError : PySem.W.subIn K (.ref a.c_InvalidEnd) (.ref a.c_HeldError) = some true
  x_InvalidEnd_InvalidPlace : PySem.W.subIn K (.ref a.c_InvalidEnd) (.ref a.c_InvalidPlace) = some false
  x_InvalidEnd_InvalidEnd : PySem.W.subIn K (.ref a.c_InvalidEnd) (.ref a.c_InvalidEnd) = some true
  x_InvalidEnd_InvalidTerm : PySem.W.subIn K (.ref a.c_InvalidEnd) (.ref a.c_InvalidTerm) = some false
  x_InvalidEnd_InvalidValues : PySem.W.subIn K (.ref a.c_InvalidEnd) (.ref a.c_InvalidValues) = some false
  x_InvalidTerm_HeldError : PySem.W.subIn K (.ref a.c_InvalidTerm) (.ref a.c_HeldError) = some true
  x_InvalidTerm_InvalidPlace : PySem.W.subIn K (.ref a.c_InvalidTerm) (.ref a.c_InvalidPlace) = some false
  x_InvalidTerm_InvalidEnd : PySem.W.subIn K (.ref a.c_InvalidTerm) (.ref a.c_InvalidEnd) = some false
  x_InvalidTerm_InvalidTerm : PySem.W.subIn K (.ref a.c_InvalidTerm) (.ref a.c_InvalidTerm) = some true
  x_InvalidTerm_InvalidValues : PySem.W.subIn K (.ref a.c_InvalidTerm) (.ref a.c_InvalidValues) = some false
  x_InvalidValues_HeldError : PySem.W.subIn K (.ref a.c_InvalidValues) (.ref a.c_HeldError) = some true
  x_InvalidValues_InvalidPlace : PySem.W.subIn K (.ref a.c_InvalidValues) (.ref a.c_InvalidPlace) = some false
  x_InvalidValues_InvalidEnd : PySem.W.subIn K (.ref a.c_InvalidValues) (.ref a.c_InvalidEnd) = some false
  x_InvalidValues_InvalidTerm : PySem.W.subIn K (.ref a.c_InvalidValues) (.ref a.c_InvalidTerm) = some false
  x_InvalidValues_InvalidValues : PySem.W.subIn K (.ref a.c_InvalidValues) (.ref a.c_InvalidValues) = some true
  y_HeldError : PySem.W.subIn K (.ref a.c_HeldError) (.type "ValueError") = some true
  y_InvalidPlace : PySem.W.subIn K (.ref a.c_InvalidPlace) (.type "ValueError") = some true
  y_InvalidEnd : PySem.W.subIn K (.ref a.c_InvalidEnd) (.type "ValueError") = some true
  y_InvalidTerm : PySem.W.subIn K (.ref a.c_InvalidTerm) (.type "ValueError") = some true
  y_InvalidValues : PySem.W.subIn K (.ref a.c_InvalidValues) (.type "ValueError") = some true
theorem GFn.fn {P : Program} {w : World} {K : PySem.W.Frag} {mg : Str → Option Value} {base : Heap} {x : Str} {st : Stmt} {f : Addr} {N ps : List Str} {sp : Sp} {k : Nat} (g : GFn K mg x st f) (S : FnScope N ps (defScope st))
    (hb : ∀ (kV doc pm : Value) (an : Option Addr) (cdv ct : Value) (us : List Value), us.length = ps.length → bindArgs (PySem.W.fnOf x x (defArgs st) (defBody st) (defScope st) .none kV doc pm an cdv ct) ⟨us, []⟩ = pure (ps.zip us))
    (len : ∀ vs H Q E, sp vs H Q E → vs.length = ps.length)
    (body : ∀ (cdv : Value) (A : Around) (outer : List Env) (s : Shared) (H : Hp) (vs : List V) (Q : VK) (E : XK), A.guards = some [] → Room k (A.deeper (envOfC x (defScope st) s.heap.objs.size f cdv)) → sp vs H Q E →
      ∃ t, PSs (cxOf (L2.CX P w) P w K mg base N x (defScope st) f cdv A outer s H E) (defBody st) t ∧ t { nx := fun _ H' => Q .non H', rt := Q } (start N vs) H) : Fn P w K mg base (k + 1) f sp := by
  obtain ⟨fd, F⟩ := g.F
  exact Fn.of F S (F.binds hb) len fun cdv A outer s H vs Q E hg hr _ h => body cdv A outer s H vs Q E hg hr h
/-- what a callee lets out, the def lets out -/
theorem passC {P : Program} {w : World} {K : PySem.W.Frag} {mg : Str → Option Value} {base : Heap} {N : List Str} {q : Str} {sc : Scope} {f : Addr} {cdv : Value} {A : Around} {outer : List Env} {s : Shared} {H : Hp} {E : XK} :
    Passes (L2.CX P w) (cxOf (L2.CX P w) P w K mg base N q sc f cdv A outer s H E) E := passes_call (takes_of rfl rfl rfl rfl) fun _ _ _ _ h => h
theorem takeC {P : Program} {w : World} {K : PySem.W.Frag} {mg : Str → Option Value} {base : Heap} {N : List Str} {q : Str} {sc : Scope} {f : Addr} {cdv : Value} {A : Around} {outer : List Env} {s : Shared} {H : Hp} {E : XK} :
    Takes (cxOf (L2.CX P w) P w K mg base N q sc f cdv A outer s H E) (fun cls d _ H' => E cls d H') := takes_of rfl rfl rfl rfl
theorem ownC {P : Program} {w : World} {K : PySem.W.Frag} {mg : Str → Option Value} {base : Heap} {N : List Str} {q : Str} {sc : Scope} {f : Addr} {cdv : Value} {A : Around} {outer : List Env} {s : Shared} {H : Hp} {E : XK} :
    PassesOwn (model (cxOf (L2.CX P w) P w K mg base N q sc f cdv A outer s H E).prog (cxOf (L2.CX P w) P w K mg base N q sc f cdv A outer s H E).w) (cxOf (L2.CX P w) P w K mg base N q sc f cdv A outer s H E).A (cxOf (L2.CX P w) P w K mg base N q sc f cdv A outer s H E).env (cxOf (L2.CX P w) P w K mg base N q sc f cdv A outer s H E).xe := PassesOwn.leaving
/-- a built-in class as a value -/
theorem pe_ty {X : Cx} {x : Str} {pos : Pos} (n : String) (hg : Gl X x) (hm : X.mg x = none) (hv : bootBuiltins x = some (.type n)) (hn : x ≠ "__name__" := by decide) (hd : (x == ("__debug__" : Str)) = false := by decide) : PE X (.Name x pos) (tC (.ty n)) := by
  first
    | exact pe_bltn hg hm hv rfl (hd := hd)
    | exact pe_bltn hg hm hv rfl hn hd
end K13
namespace K13
open PySem PySem.Spec PyProof.Rows L2 LG Evl
/-! ### values and what is known of them -/
/-- a value whose class is known -/
inductive Kn (H : Hp) : V → String → Prop
  | non : Kn H .non "NoneType"
  | bl (b : Bool) : Kn H (.bl b) "bool"
  | int (i : Int) : Kn H (.int i) "int"
  | str (x : Str) : Kn H (.str x) "str"
  | lst {p : Addr} {xs : List V} (h : H p = some (.lst xs)) : Kn H (.ref p) "list"
  | tup {p : Addr} {xs : List V} (h : H p = some (.tup xs)) : Kn H (.ref p) "tuple"
  | dic {p : Addr} {kvs : List (Key × V)} (h : H p = some (.dK kvs)) : Kn H (.ref p) "dict"
theorem Kn.ty {K : PySem.W.Frag} {H : Hp} {v : V} {t : String} (h : Kn H v t) : TyX K H v (.type t) := by
  cases h with
  | non => exact .base .non
  | bl b => exact .base (.bl b)
  | int i => exact .base (.int i)
  | str x => exact .base (.str x)
  | lst h => exact .base (.lst h)
  | tup h => exact .base (.tup h)
  | dic h => exact .base (.dK h)
theorem kn_int {K : PySem.W.Frag} {H : Hp} {v : V} {t : String} (h : Kn H v t) : PySem.W.kitOne K (.type t) (.type "int") = some (t == "int" || t == "bool") := by
  cases h <;> exact kit_ty (by decide +kernel)
theorem kn_bool {K : PySem.W.Frag} {H : Hp} {v : V} {t : String} (h : Kn H v t) : PySem.W.kitOne K (.type t) (.type "bool") = some (t == "bool") := by
  cases h <;> exact kit_ty (by decide +kernel)
theorem kn_str {K : PySem.W.Frag} {H : Hp} {v : V} {t : String} (h : Kn H v t) : PySem.W.kitOne K (.type t) (.type "str") = some (t == "str") := by
  cases h <;> exact kit_ty (by decide +kernel)
theorem kn_list {K : PySem.W.Frag} {H : Hp} {v : V} {t : String} (h : Kn H v t) : PySem.W.kitAny K (.type t) [.type "list", .type "tuple"] = some (t == "list" || t == "tuple") := by
  cases h with
  | non => exact kitAny_cons (kit_ty (by decide +kernel) : _ = some false) (fun _ => kitAny_cons (kit_ty (by decide +kernel) : _ = some false) (fun _ => kitAny_nil) (fun z => by cases z)) (fun z => by cases z)
  | bl b => exact kitAny_cons (kit_ty (by decide +kernel) : _ = some false) (fun _ => kitAny_cons (kit_ty (by decide +kernel) : _ = some false) (fun _ => kitAny_nil) (fun z => by cases z)) (fun z => by cases z)
  | int b => exact kitAny_cons (kit_ty (by decide +kernel) : _ = some false) (fun _ => kitAny_cons (kit_ty (by decide +kernel) : _ = some false) (fun _ => kitAny_nil) (fun z => by cases z)) (fun z => by cases z)
  | str b => exact kitAny_cons (kit_ty (by decide +kernel) : _ = some false) (fun _ => kitAny_cons (kit_ty (by decide +kernel) : _ = some false) (fun _ => kitAny_nil) (fun z => by cases z)) (fun z => by cases z)
  | dic b => exact kitAny_cons (kit_ty (by decide +kernel) : _ = some false) (fun _ => kitAny_cons (kit_ty (by decide +kernel) : _ = some false) (fun _ => kitAny_nil) (fun z => by cases z)) (fun z => by cases z)
  | lst b => exact kitAny_cons (kit_ty (by decide +kernel) : _ = some true) (fun z => by cases z) (fun _ => rfl)
  | tup b => exact kitAny_cons (kit_ty (by decide +kernel) : _ = some false) (fun _ => kitAny_cons (kit_ty (by decide +kernel) : _ = some true) (fun z => by cases z) (fun _ => rfl)) (fun z => by cases z)
def isIntB : V → Bool
  | .int _ => true
  | _ => false
def isEndB (v : V) : Bool := inV v [.str "bottom", .str "top"]
def isEndS : V → Bool
  | .str x => isEndB (.str x)
  | _ => false
def isValB (v : V) : Bool := isIntB v || isEndS v
/-! ### the promises of values.py -/
def sp_is_integer : Sp := fun vs H Q _ => ∃ v t, vs = [v] ∧ Kn H v t ∧ Q (.bl (isIntB v)) H
def sp_is_end : Sp := fun vs H Q _ => ∃ v t, vs = [v] ∧ Kn H v t ∧ Q (.bl (isEndS v)) H
def sp_is_list : Sp := fun vs H Q _ => ∃ v t, vs = [v] ∧ Kn H v t ∧ ∀ H', (∀ b o, H b = some o → H' b = some o) → Q (.bl (t == "list" || t == "tuple")) H'
def sp_is_value : Sp := fun vs H Q _ => ∃ v t, vs = [v] ∧ Kn H v t ∧ Q (.bl (isValB v)) H
section
variable {P : Program} {w : World} {K : PySem.W.Frag} {mg : Str → Option Value} {base : Heap} {a : At}
theorem ok_is_end (T : Txt K mg a) : Fn P w K mg base 1 a.is_end sp_is_end := by
  refine T.d_is_end.fn sc_is_end (fun _ _ _ _ _ _ us hl => match us, hl with | [_], _ => rfl) (fun vs H Q E h => ?_) (fun cdv A outer s H vs Q E hg hr h => ?_)
  · obtain ⟨_, _, rfl, _⟩ := h
    rfl
  · obtain ⟨v, t, rfl, hk, q⟩ := h
    refine ⟨_, (pss_one (ps_ret (pe_and (pe_callB call_isi (by rfl) T.z_isinstance (by decide +kernel) (pa_cons (pv 0) (pa_cons (pe_ty "str" (by rfl) T.z_str (by decide +kernel)) pa_nil))) (pe_one (pe_cmpR op_in_seq (pv 0) (pe_glob (v := .ref a.ENDS) rfl T.v_ENDS rfl) (by rfl)))))), ?_⟩
    refine ⟨v, rfl, v, .ty "str", _, _, _, rfl, .ty _, hk.ty, kn_str hk, _, rfl, ?_⟩
    obtain ⟨od, its, n, sl, hl, hv⟩ := T.l_ENDS
    have hz : its.length = 2 := hv.length.symm
    have sq : SqT K H a.ENDS [.str "bottom", .str "top"] := .inr ⟨_, its.toArray, n, hl, rfl, rfl, by rw [List.size_toArray, hz]; decide, by simpa using hv⟩
    cases hk with
    | str x => exact iteT ⟨_, rfl, a.ENDS, _, rfl, .inr sq, rfl, rfl, q⟩
    | _ => exact iteF q
/-! ### errors -/
def sp_init : Sp := fun vs H Q _ => ∃ (e C : Addr) (v : V), vs = [.ref e, v] ∧ OexC K C ∧ PySem.W.findIn K (.ref C) "value" = some none ∧ H e = some (exo e C none) ∧
  ∀ dx, H dx = none → dx ≠ e → Q .non (upd (upd H dx (exd dx [("value", v)])) e (exo e C (some dx)))
theorem ok_init {fd : FuncData} (F : FunD K "__init__" "HeldError.__init__" (defArgs s_init) (defBody s_init) (defScope s_init) [.non] [] a.init fd) : FnOk P w K mg base CX0 1 a.init fd ["self", "value"] (sp_init (K := K)) := by
  refine F.ok sc_init (fun vs H Q E h => ?_) (fun cdv A outer s H vs Q E hr h => ?_)
  · obtain ⟨_, _, _, rfl, _⟩ := h
    rfl
  · obtain ⟨e, C, v, rfl, oc, hv, he, q⟩ := h
    exact ⟨_, pss_one (ps_ost (pv 0) (pv 1)), v, rfl, .ref e, rfl, e, C, rfl, oc, hv, .inl ⟨he, q⟩⟩
/-- raise X(n), n the name in slot i -/
def tRaiseV (C : Addr) (W : WX) (i : Nat) : TS := fun _ σ H => ∃ v, σ[i]? = some (some v) ∧ ∀ d, H d = none → W (.ref C) (some d) σ (upd H d (.xd [("value", v)]))
theorem made_eq {H1 : Hp} {x d C : Addr} {o u : HO} (hx : H1 x = none) (hd : d ≠ x) (hd1 : H1 d = none) {z : HO} : upd (del (upd (upd (upd H1 x o) d u) x (exo x C (some d))) x) d z = upd H1 d z := by
  funext b
  by_cases h1 : b = d
  · subst h1
    rw [upd_same, upd_same]
  · rw [upd_ne h1, upd_ne h1]
    by_cases h2 : b = x
    · subst h2
      rw [del_same, hx]
    · rw [del_ne h2, upd_ne h2, upd_ne h1, upd_ne h2]
theorem ps_raiseV {X : Cx} {x n : Str} {C : Addr} {W : WX} {i : Nat} {pn p pos pos2 : Pos} {k : Nat} (hc : X.calm = true) (tk : Takes X W) (g : GEx X.K X.mg x C a.init) (ti : PySem.W.typeIn X.K (.ref a.init) = some (.type "function"))
    (di : ∃ fd, FunD X.K "__init__" "HeldError.__init__" (defArgs s_init) (defBody s_init) (defScope s_init) [.non] [] a.init fd) (hr : Room (k + 2) X.A) (hg : Gl X x) (ha : PE X (.Name n pn) (tVar i))
    (hdb : (x == ("__debug__" : Str)) = false := by decide) (he : starEach [.Name n pn] X.env = (false, eval (.Name n pn) X.env) :: starEach [] X.env := by rfl) (hpl : (backTo pos (starEach [] X.env)).any (·.1) = false := by rfl) :
    PS X (.Raise (some (.Call (.Name x p) [.Name n pn] [] pos)) none pos2) (tRaiseV C W i) := by
  obtain ⟨fd, F⟩ := di
  obtain ⟨ds, hv, hb⟩ := F.binds1 (ps := ["self", "value"]) 2 1 (by simp) rfl fun T kV doc pm an cdv ct us its hl hi => match us, its, hl, hi with
    | [_, _], [_], _, _ => ⟨_, rfl, rfl⟩
  cases hv
  have F1 : FnOk X.prog X.w X.K X.mg X.base CX0 1 a.init fd ["self", "value"] (sp_init (K := X.K)) := ok_init F
  have z := ps_raise (pos := pos2) hc tk (pmk_oex (p := p) (pos := pos) g.o g.i ti F1 (hr.mono (by omega)) hb .nil pass0 hg g.m (pa_cons ha pa_nil) hdb he hpl)
  constructor
  intro pins s σ H D I h
  refine z.run pins s σ H D I ?_
  obtain ⟨v, hv, q⟩ := h
  refine ⟨v, hv, (by decide : 1 ≤ 1000), fun x' hx => ⟨x', C, v, rfl, g.o, g.v, upd_same, fun d hd hne => ?_⟩⟩
  have hd1 : H d = none := by
    rw [upd_ne hne] at hd
    exact hd
  refine ⟨rfl, d, [("value", v)], upd_same, ?_, hd1, ?_⟩
  · rw [upd_ne hne, upd_same]
  · show W _ _ _ _
    rw [made_eq hx hne hd1]
    exact q d hd1
end
theorem Kn.up {H H' : Hp} {v : V} {t : String} (e : Ex H H') (h : Kn H v t) : Kn H' v t := by
  cases h with
  | non => exact .non
  | bl b => exact .bl b
  | int i => exact .int i
  | str x => exact .str x
  | lst h => exact .lst (e _ _ h)
  | tup h => exact .tup (e _ _ h)
  | dic h => exact .dic (e _ _ h)
/-- an error of the class C that bears v, told of any heap in which all stands as before -/
def Errs (C : Addr) (v : V) (H : Hp) (E : XK) : Prop := ∀ d H', Ex H H' → H' d = some (.xd [("value", v)]) → E (.ref C) (some d) H'
theorem Errs.new {C d : Addr} {v : V} {H H1 : Hp} {E : XK} (h : Errs C v H E) (e : Ex H H1) (hd : H1 d = none) : E (.ref C) (some d) (upd H1 d (.xd [("value", v)])) := h d _ (e.trans (Ex.new hd)) upd_same
theorem Errs.up {C : Addr} {v : V} {H H1 : Hp} {E : XK} (h : Errs C v H E) (e : Ex H H1) : Errs C v H1 E := fun d H' e' hd => h d H' (e.trans e') hd
end K13
namespace K13
open PySem PySem.Spec PyProof.Rows L2 LG Evl
/-! ### the pot: a list of two ints -/
def Po (p : Addr) (H : Hp) : Prop := ∃ x y : Int, H p = some (.lst [.int x, .int y]) ∧ 0 ≤ y ∧ y < 2147483587
/-- all but the pot is as before -/
def Px (p : Addr) (H H' : Hp) : Prop := (∀ b o, b ≠ p → H b = some o → H' b = some o) ∧ Po p H'
theorem Po.up {p : Addr} {H H' : Hp} (h : Po p H) (e : Ex H H') : Po p H' := let ⟨x, y, h1, h2⟩ := h; ⟨x, y, e _ _ h1, h2⟩
theorem Px.of {p : Addr} {H H' : Hp} (h : Po p H) (e : Ex H H') : Px p H H' := ⟨fun b o _ hb => e b o hb, h.up e⟩
theorem Px.refl {p : Addr} {H : Hp} (h : Po p H) : Px p H H := ⟨fun _ _ _ e => e, h⟩
theorem Px.trans {p : Addr} {H H1 H2 : Hp} (a : Px p H H1) (b : Px p H1 H2) : Px p H H2 := ⟨fun c o n h => b.1 c o n (a.1 c o n h), b.2⟩
theorem Px.ex {p : Addr} {H H1 H2 : Hp} (a : Px p H H1) (e : Ex H1 H2) : Px p H H2 := ⟨fun c o n h => e c o (a.1 c o n h), a.2.up e⟩
theorem Px.ne {p l : Addr} {H H' : Hp} (h : Px p H H') (n : H' l = none) : l ≠ p := fun z => by
  obtain ⟨x, y, h1, _⟩ := h.2
  rw [z, h1] at n
  cases n
theorem Po.ne {p l : Addr} {H : Hp} (h : Po p H) (n : H l = none) : l ≠ p := (Px.refl h).ne n
theorem Px.fresh {p l : Addr} {H H' : Hp} (h : Px p H H') (n : H' l = none) : H l = none := by
  have hl := h.ne n
  cases e : H l with
  | none => rfl
  | some o =>
    rw [h.1 l o hl e] at n
    cases n
theorem Px.set {p : Addr} {H H' : Hp} {x y : Int} (a : Px p H H') (h1 : 0 ≤ y) (h2 : y < 2147483587) : Px p H (upd H' p (.lst [.int x, .int y])) :=
  ⟨fun b o n h => by rw [upd_ne n]; exact a.1 b o n h, x, y, upd_same, h1, h2⟩
section
variable {P : Program} {w : World} {K : PySem.W.Frag} {mg : Str → Option Value} {base : Heap} {a : At}
theorem at0 {x y : V} : atI [x, y] 0 = some x := rfl
theorem at1 {x y : V} : atI [x, y] 1 = some y := rfl
def sp__law_draw : Sp := fun vs H Q _ => ∃ (p : Addr) (m : Int), vs = [.ref p, .int m] ∧ Po p H ∧ 0 < m ∧ m ≤ 1000 ∧ ∀ (d : Int) (H' : Hp), 0 ≤ d → d < m → Px p H H' → Q (.int d) H'
theorem ok__law_draw (T : Txt K mg a) : Fn P w K mg base 1 a._law_draw sp__law_draw := by
  refine T.d__law_draw.fn sc__law_draw (fun _ _ _ _ _ _ us hl => match us, hl with | [_, _], _ => rfl) (fun vs H Q E h => ?_) (fun cdv A outer s H vs Q E hg hr h => ?_)
  · obtain ⟨_, _, rfl, _⟩ := h
    rfl
  · obtain ⟨p, m, rfl, ⟨x, y, hp, hy0, hy1⟩, hm0, hm1, q⟩ := h
    have nd := sc__law_draw.nd
    refine ⟨_, (pss_cons (ps_if (pt_cmpR op_gt (pe_ix ix_list (pv 0) pe_int (fun _ _ => rfl)) pe_int (nomark _)) (pss_cons (ps_asg (pe_callB call_divmodW (by rfl) T.z_divmod (by decide +kernel) (pa_cons (pe_ix ix_list (pv 0) pe_int (fun _ _ => rfl)) (pa_cons (pv 1) pa_nil))) (pg_tup (by rfl) (pgs_cons (pg_sub (pv 0) pe_int set_list) (pgs_cons (pg_name (i := 2) nd rfl (.inl rfl)) pgs_nil))))
      (pss_one (ps_ret (pv 2)))) pss_nil)
    (pss_cons (ps_asg (pe_op op_mod (pe_callTy call_int1 (by rfl) T.z_int (by decide +kernel) (pa_cons (pe_op op_add (pe_op op_mul (pe_ix ix_list (pv 0) pe_int (fun _ _ => rfl)) pe_int) pe_int) pa_nil)) pe_int) (pg_sub (pv 0) pe_int set_list))
    (pss_one (ps_ret (pe_op op_mod (pe_op op_fdiv (pe_op op_mod (pe_callTy call_int1 (by rfl) T.z_int (by decide +kernel) (pa_cons (pe_op op_mul (pe_ix ix_list (pv 0) pe_int (fun _ _ => rfl)) (pe_ix ix_list (pv 0) pe_int (fun _ _ => rfl))) pa_nil)) pe_int) pe_int) (pv 1)))))), ?_⟩
    have hs : SqL K H p [.int x, .int y] := sq_of hp
    have P0 : Px p H H := Px.refl ⟨x, y, hp, hy0, hy1⟩
    refine ⟨.ref p, rfl, p, _, 0, _, rfl, rfl, hs, at0, x, 0, rfl, rfl, _, rfl, ?_⟩
    by_cases hx : 0 < x
    · rw [decide_eq_true hx]
      refine iteT ⟨.ref p, rfl, p, _, 0, _, rfl, rfl, hs, at0, .int m, rfl, x, m, rfl, ⟨hm0, ?_⟩, fun t ht => ?_⟩
      · have hj : ¬ ((if m == 0 then 0 else m.natAbs.log2 / 30 + 1) > 300) := by
          have h1 : m.natAbs.log2 ≤ 1000 := Nat.le_trans (Nat.log2_le_self _) (by omega)
          split <;> omega
        show (decide ((if m == 0 then 0 else m.natAbs.log2 / 30 + 1) > 300) && _) = false
        rw [decide_eq_false hj]
        rfl
      · have ne : p ≠ t := ne_of_none hp ht
        refine ⟨t, _, rfl, st_of upd_same, rfl, _, _, rfl, .ref p, rfl, p, [.int x, .int y], 0, 0, rfl, rfl, ?_, rfl, ?_⟩
        · rw [upd_ne ne]
          exact hp
        · exact ⟨_, _, rfl, rfl, _, rfl, q _ _ (Int.emod_nonneg _ (by omega)) (Int.emod_lt_of_pos _ hm0) ((P0.ex (Ex.new ht)).set hy0 hy1)⟩
    · rw [decide_eq_false hx]
      refine iteF ⟨.ref p, rfl, p, _, 1, _, rfl, rfl, hs, at1, y, 48271, rfl, rfl, .inr (by omega), _, 11213, rfl, rfl, .inl ⟨_, rfl, _, _, rfl, rfl, by omega, .ref p, rfl, p, [.int x, .int y], 1, 1, rfl, rfl, hp, rfl, ?_⟩⟩
      have z0 : 0 ≤ (y * 48271 + 11213) % 2147483587 := Int.emod_nonneg _ (by omega)
      have z1 : (y * 48271 + 11213) % 2147483587 < 2147483587 := Int.emod_lt_of_pos _ (by omega)
      have hs2 : SqL K (upd H p (.lst [.int x, .int ((y * 48271 + 11213) % 2147483587)])) p [.int x, .int ((y * 48271 + 11213) % 2147483587)] := sq_of upd_same
      have key : ∀ y' : Int, 0 ≤ y' → y' < 2147483587 → SqL K (upd H p (.lst [.int x, .int y'])) p [.int x, .int y'] → Px p H (upd H p (.lst [.int x, .int y'])) := fun y' a b _ => P0.set a b
      refine ⟨.ref p, rfl, p, _, 1, _, rfl, rfl, hs2, at1, .ref p, rfl, p, _, 1, _, rfl, rfl, hs2, at1, _, _, rfl, rfl, .inr ⟨by omega, by omega⟩, .inl ⟨_, rfl, _, _, rfl, rfl, by omega, _, _, rfl, rfl, by constructor <;> omega, .int m, rfl, _, m, rfl, rfl, hm0, ?_⟩⟩
      exact q _ _ (Int.emod_nonneg _ (by omega)) (Int.emod_lt_of_pos _ hm0) (P0.set z0 z1)
end
end K13
namespace K13
open PySem PySem.Spec PyProof.Rows L2 LG Evl
section
variable {P : Program} {w : World} {K : PySem.W.Frag} {mg : Str → Option Value} {base : Heap} {a : At}
/-! ### the pot made, an element picked -/
def sp__law_pot (K : PySem.W.Frag) : Sp := fun vs H Q _ => ∃ (l : Addr) (ns : List Int) (k : Nat), vs = [.ref l, .int k] ∧ SqL K H l (ns.map V.int) ∧ ns.length ≤ 63 ∧ k ≤ 100 ∧ ∀ (p : Addr) (H' : Hp), H p = none → Ex H H' → Po p H' → Q (.ref p) H'
theorem ok__law_pot (T : Txt K mg a) : Fn P w K mg base 1 a._law_pot (sp__law_pot K) := by
  refine T.d__law_pot.fn sc__law_pot (fun _ _ _ _ _ _ us hl => match us, hl with | [_, _], _ => rfl) (fun vs H Q E h => ?_) (fun cdv A outer s H vs Q E hg hr h => ?_)
  · obtain ⟨_, _, _, rfl, _⟩ := h
    rfl
  · obtain ⟨l, ns, k, rfl, hs, hn, hk, q⟩ := h
    have nd := sc__law_pot.nd
    refine ⟨_, (pss_cons (ps_set (i := 2) nd rfl (.inl rfl) (pe_op op_add (pe_op op_mul pe_int (pv 1)) pe_int))
    (pss_cut (ps_if (pt_cmpR op_lt (pv 1) (pe_callB call_len_seq (by rfl) T.z_len (by decide +kernel) (pa_cons (pv 0) pa_nil)) (nomark _)) (pss_one (ps_set (i := 2) nd rfl (.inl rfl) (pe_ix ix_list (pv 0) (pv 1) (fun _ _ => rfl)))) pss_nil)
    (pss_one (ps_ret (pe_lst (pa_cons (pe_callB (call_max2 rfl) (by rfl) T.z_max (by decide +kernel) (pa_cons pe_int (pa_cons (pe_op op_sub (pe_callB call_abs (by rfl) T.z_abs (by decide +kernel) (pa_cons (pv 2) pa_nil)) (pe_op op_pow pe_int pe_int)) pa_nil))) (pa_cons (pe_op op_add (pe_op op_mod (pe_op op_mul (pe_callTy call_int1 (by rfl) T.z_int (by decide +kernel) (pa_cons (pe_op op_add (pe_op op_mod (pe_callTy call_int1 (by rfl) T.z_int (by decide +kernel) (pa_cons (pe_callB call_abs (by rfl) T.z_abs (by decide +kernel) (pa_cons (pv 2) pa_nil)) pa_nil)) pe_int) pe_int) pa_nil)) (pe_op op_pow (pe_op op_add (pe_op op_mul pe_int (pv 1)) pe_int) pe_int)) pe_int) pe_int) pa_nil))))))), ?_⟩
    refine ⟨.int k, rfl, 23, k, rfl, rfl, .inl (by constructor <;> decide), _, _, rfl, rfl, fun σ' H' => H' = H ∧ ∃ c : Int, σ' = [some (.ref l), some (.int k), some (.int c)], ?_, fun σ' H' ⟨e1, c, e2⟩ => ?_⟩
    · refine ⟨.int k, rfl, .ref l, rfl, l, _, rfl, .inl hs, _, _, rfl, rfl, _, rfl, ?_⟩
      by_cases h : (k : Int) < ((ns.map V.int).length : Int)
      · rw [decide_eq_true h]
        have hk2 : k < (ns.map V.int).length := by omega
        refine iteT ⟨.ref l, rfl, .int k, rfl, l, _, k, (ns.map V.int)[k], rfl, rfl, hs, ?_, ?_⟩
        · unfold atI
          rw [ixN_nat hk2]
          exact List.getElem?_eq_getElem hk2
        · rw [List.getElem_map]
          exact ⟨rfl, _, rfl⟩
      · rw [decide_eq_false h]
        exact iteF ⟨rfl, _, rfl⟩
    · subst e1 e2
      refine ⟨.int c, rfl, c, rfl, 10, 18, rfl, rfl, ⟨by decide, by decide, by decide⟩, _, _, rfl, rfl, 0, _, rfl, .int c, rfl, c, rfl, .inl ⟨_, rfl, _, 2147483549, rfl, rfl, (by decide : (0 : Int) < 2147483549), _, _, rfl, rfl, .inl ⟨_, rfl, .int k, rfl, 2, k, rfl, rfl, .inl (by constructor <;> decide), _, _, rfl, rfl, _, 3, rfl, rfl, ⟨by decide, by decide, by omega⟩, _, _, rfl, rfl, .inl ?_, _, _, rfl, rfl, (by decide : (0 : Int) < 2147483477), _, _, rfl, rfl, (by decide : 2 ≤ sizeLine), fun p hp => q p _ hp (Ex.new hp) ⟨_, _, upd_same, ?_, ?_⟩⟩⟩⟩
      · have h1 := Int.emod_nonneg (if c < 0 then -c else c) (show (2147483549 : Int) ≠ 0 by decide)
        have h2 := Int.emod_lt_of_pos (if c < 0 then -c else c) (show (0 : Int) < 2147483549 by decide)
        constructor <;> omega
      · have h1 := fun z : Int => Int.emod_nonneg z (show (2147483477 : Int) ≠ 0 by decide)
        have h3 : ∀ z : Int, 0 ≤ z → 0 ≤ z + 1 := fun z hz => by omega
        exact h3 _ (h1 _)
      · have h2 := fun z : Int => Int.emod_lt_of_pos z (show (0 : Int) < 2147483477 by decide)
        have h3 : ∀ z : Int, z < 2147483477 → z + 1 < 2147483587 := fun z hz => by omega
        exact h3 _ (h2 _)
def sp__law_pick : Sp := fun vs H Q _ => ∃ (p l : Addr) (xs : List V), vs = [.ref p, .ref l] ∧ Po p H ∧ H l = some (.lst xs) ∧ l ≠ p ∧ 0 < xs.length ∧ xs.length ≤ 1000 ∧ ∀ x ∈ xs, ∀ H', Px p H H' → Q x H'
theorem ok__law_pick (T : Txt K mg a) : Fn P w K mg base 2 a._law_pick sp__law_pick := by
  have G__law_draw : Fn P w K mg base 1 a._law_draw sp__law_draw := ok__law_draw T
  refine T.d__law_pick.fn sc__law_pick (fun _ _ _ _ _ _ us hl => match us, hl with | [_, _], _ => rfl) (fun vs H Q E h => ?_) (fun cdv A outer s H vs Q E hg hr h => ?_)
  · obtain ⟨_, _, _, rfl, _⟩ := h
    rfl
  · obtain ⟨p, l, xs, rfl, hp, hl, hn, h0, h1, q⟩ := h
    refine ⟨_, (pss_one (ps_ret (pe_ix ix_list (pv 1) (pe_fn G__law_draw hg (hr.mono (by decide)) T.d__law_draw.kp T.d__law_draw.m (by rfl) passL (pa_cons (pv 0) (pa_cons (pe_callB call_len_seq (by rfl) T.z_len (by decide +kernel) (pa_cons (pv 1) pa_nil)) pa_nil))) (fun _ _ => rfl)))), ?_⟩
    refine ⟨.ref l, rfl, .ref p, rfl, .ref l, rfl, l, xs, rfl, .inl (sq_of hl), p, _, rfl, hp, by omega, by omega, fun d H' d0 d1 hx => ?_⟩
    obtain ⟨j, rfl⟩ := Int.eq_ofNat_of_zero_le d0
    have hj : j < xs.length := by omega
    refine ⟨l, xs, j, xs[j], rfl, rfl, sq_of (hx.1 l _ hn hl), ?_, q _ (List.getElem_mem hj) _ hx⟩
    unfold atI
    rw [ixN_nat hj]
    exact List.getElem?_eq_getElem hj
end
end K13
namespace K13
open PySem PySem.Spec PyProof.Rows L2 LG Evl
section
variable {P : Program} {w : World} {K : PySem.W.Frag} {mg : Str → Option Value} {base : Heap} {a : At}
/-! ### Term.__init__, is_place: no guard is asked for -/
def sp_Term_init (K : PySem.W.Frag) : Sp := fun vs H Q _ => ∃ x C dx d, vs = [.ref x, d] ∧ H x = some (.ins C dx []) ∧ Cls K C ∧ NoAttr K C "own_depth" ∧ Q .non (upd H x (.ins C dx [("own_depth", d)]))
theorem ok_Term_init {CX : CXT} (T : Txt K mg a) : ∃ fd, FnOk P w K mg base CX 1 a.m_Term_init fd ["self", "depth"] (sp_Term_init K) ∧ Binds K fd ["self", "depth"] [] := by
  obtain ⟨fd, F⟩ := T.m_Term_init.F
  have hb : Binds K fd ["self", "depth"] [] := F.binds fun _ _ _ _ _ _ us hl => match us, hl with | [_, _], _ => rfl
  obtain ⟨oc, od, kV, doc, pm, an, cdv, ct, osl, rfl, lk, hcd⟩ := F.ex
  refine ⟨_, fn_of lk hcd sc_Term_init (fun vs H Q E h => ?_) (fun A outer s H vs Q E hr h => ?_), hb⟩
  · obtain ⟨_, _, _, _, rfl, _⟩ := h
    rfl
  · obtain ⟨x, C, dx, d, rfl, hx, cl, na, q⟩ := h
    exact ⟨_, pss_one (ps_fld (pv 0) (pv 1) rfl), d, rfl, .ref x, rfl, x, C, dx, [], rfl, hx, cl, na, by decide, q⟩
def placesV : List V := [.str "r0", .str "r1", .str "r2", .str "r3", .str "r4", .str "r5", .str "x0", .str "x1"]
def isPlB : V → Bool
  | .str x => inV (.str x) placesV
  | _ => false
def sp_is_place : Sp := fun vs H Q _ => ∃ v t, vs = [v] ∧ Kn H v t ∧ Q (.bl (isPlB v)) H
theorem ok_is_place (T : Txt K mg a) : ∃ fd, FnOk P w K mg base CX0 1 a.is_place fd ["value"] sp_is_place ∧ Binds K fd ["value"] [] := by
  obtain ⟨fd, F⟩ := T.d_is_place.F
  refine ⟨fd, F.ok sc_is_place (fun vs H Q E h => ?_) (fun cdv A outer s H vs Q E hr h => ?_), F.binds fun _ _ _ _ _ _ us hl => match us, hl with | [_], _ => rfl⟩
  · obtain ⟨_, _, rfl, _⟩ := h
    rfl
  · obtain ⟨v, t, rfl, hk, q⟩ := h
    refine ⟨_, (pss_one (ps_ret (pe_and (pe_callB call_isi (by rfl) T.z_isinstance (by decide +kernel) (pa_cons (pv 0) (pa_cons (pe_ty "str" (by rfl) T.z_str (by decide +kernel)) pa_nil))) (pe_one (pe_cmpR op_in_seq (pv 0) (pe_glob (v := .ref a.PLACES) rfl T.v_PLACES rfl) (by rfl)))))), ?_⟩
    refine ⟨v, rfl, v, .ty "str", _, _, _, rfl, .ty _, hk.ty, kn_str hk, _, rfl, ?_⟩
    obtain ⟨od, its, n, sl, hl, hv⟩ := T.l_PLACES
    have hz : its.length = 8 := hv.length.symm
    have sq : SqT K H a.PLACES placesV := .inr ⟨_, its.toArray, n, hl, rfl, rfl, by rw [List.size_toArray, hz]; decide, by simpa [placesV] using hv⟩
    cases hk with
    | str x => exact iteT ⟨_, rfl, a.PLACES, _, rfl, .inr sq, rfl, rfl, q⟩
    | _ => exact iteF q
/-! ### Place -/
def sp_Place_init (K : PySem.W.Frag) (a : At) : Sp := fun vs H Q E => ∃ x dx v t, vs = [.ref x, v] ∧ H x = some (.ins a.k_Place dx []) ∧ Kn H v t ∧ (isPlB v = true → Q .non (upd H x (.ins a.k_Place dx [("own_depth", .int 0), ("own_name", v)]))) ∧ (isPlB v = false → Errs a.c_InvalidPlace v H E)
theorem ok_Place_init (T : Txt K mg a) (hfile : ∀ (vs : Array Value) (cl : Value) (cd : Option Addr) (sl : Array (Option Value)) (tx : Str) (tf : Tok), K.lookup a.o_Place_init = some ⟨cl, cd, .fields vs, sl⟩ → vs[2]? = some (.str tx tf) → ((P.main.file : Str) == tx) = true)
    (htop : (P.main.scope.names.lookup ("super" : Str)).isSome = false) : ∃ fd, FnOk P w K mg base (L2.CX P w) 3 a.m_Place_init fd ["self", "name"] (sp_Place_init K a) ∧ Binds K fd ["self", "name"] [] := by
  obtain ⟨fd1, F1, b1⟩ := ok_is_place (P := P) (w := w) (mg := mg) (base := base) T
  obtain ⟨fd2, F2, b2⟩ := ok_Term_init (P := P) (w := w) (mg := mg) (base := base) (CX := L2.CX P w) T
  have Z := FunS.ok (P := P) (w := w) (mg := mg) (base := base) (CX := L2.CX P w) (k := 2) (sp := sp_Place_init K a) T.m_Place_init sc_Place_init (fun vs H Q E h => ?_) (fun A outer s H vs Q E hr h => ?_)
  · obtain ⟨fd, G, _, _, _, _, _, _, _, _, rfl, _⟩ := Z
    exact ⟨_, G, .all fun us hl => match us, hl with | [_, _], _ => rfl⟩
  · obtain ⟨_, _, _, _, rfl, _⟩ := h
    rfl
  · obtain ⟨x, dx, v, t, rfl, hx, hk, q1, q2⟩ := h
    refine ⟨_, pssAt_cons (ps_if (pt_not (pt_val (pe_call F1 (hr.mono (by decide)) (by rfl) T.d_is_place.m T.d_is_place.kp b1 .nil pass0 (pa_cons (pv 1) pa_nil)))) (pss_one (ps_raiseV (i := 1) (k := 0) rfl (W := fun cls d _ H' => E cls d H') (takes_of rfl rfl rfl rfl) T.e_InvalidPlace T.ti T.di (hr.mono (by decide)) (by rfl) (pv 1))) pss_nil)
      (pssAt_super (X := NdefX.ncx (L2.CX P w) P w K mg base ["self", "name", "__class__"] (nfOf "__init__" "Place.__init__" s_Place_init a.w_Place_init a.o_Place_init) a.m_Place_init A outer s H E) (n0 := "self") rfl T.m_Place_init F2 b2 (hr.mono (by decide)) (E := fun _ _ _ => False) (passes_call (takes_of rfl rfl rfl rfl) fun _ _ _ _ h => h.elim) T.z_super (by rfl) (by rfl) (by rfl) rfl (by rfl) ⟨_, rfl, rfl⟩ hfile htop (by decide) (pa_cons pe_int pa_nil)
        (pssAt_of (pss_one (ps_fld (pv 0) (pv 1) rfl)))), ?_⟩
    refine ⟨v, rfl, v, t, rfl, hk, _, rfl, ?_⟩
    cases e : isPlB v with
    | false => exact iteT ⟨v, rfl, fun d hd => (q2 e).new (Ex.refl H) hd⟩
    | true =>
      refine iteF ⟨x, a.k_Place, dx, [], rfl, hx, T.s_Place, x, a.k_Place, dx, .int 0, rfl, hx, T.g_Place.cl, T.na_Place_own_depth, ?_⟩
      refine ⟨v, rfl, .ref x, rfl, x, a.k_Place, dx, [("own_depth", .int 0)], rfl, upd_same, T.g_Place.cl, T.na_Place_own_name, by show 1 < 1000; decide, ?_⟩
      rw [upd_upd]
      exact q1 e
end
end K13
namespace K13
open PySem PySem.Spec PyProof.Rows L2 LG Evl
section
variable {P : Program} {w : World} {K : PySem.W.Frag} {mg : Str → Option Value} {base : Heap} {a : At}
theorem okF_is_end (T : Txt K mg a) : ∃ fd, FnOk P w K mg base CX0 1 a.is_end fd ["value"] sp_is_end ∧ Binds K fd ["value"] [] := by
  obtain ⟨fd, F⟩ := T.d_is_end.F
  refine ⟨fd, F.ok sc_is_end (fun vs H Q E h => ?_) (fun cdv A outer s H vs Q E hr h => ?_), F.binds fun _ _ _ _ _ _ us hl => match us, hl with | [_], _ => rfl⟩
  · obtain ⟨_, _, rfl, _⟩ := h
    rfl
  · obtain ⟨v, t, rfl, hk, q⟩ := h
    refine ⟨_, (pss_one (ps_ret (pe_and (pe_callB call_isi (by rfl) T.z_isinstance (by decide +kernel) (pa_cons (pv 0) (pa_cons (pe_ty "str" (by rfl) T.z_str (by decide +kernel)) pa_nil))) (pe_one (pe_cmpR op_in_seq (pv 0) (pe_glob (v := .ref a.ENDS) rfl T.v_ENDS rfl) (by rfl)))))), ?_⟩
    refine ⟨v, rfl, v, .ty "str", _, _, _, rfl, .ty _, hk.ty, kn_str hk, _, rfl, ?_⟩
    obtain ⟨od, its, n, sl, hl, hv⟩ := T.l_ENDS
    have hz : its.length = 2 := hv.length.symm
    have sq : SqT K H a.ENDS [.str "bottom", .str "top"] := .inr ⟨_, its.toArray, n, hl, rfl, rfl, by rw [List.size_toArray, hz]; decide, by simpa using hv⟩
    cases hk with
    | str x => exact iteT ⟨_, rfl, a.ENDS, _, rfl, .inr sq, rfl, rfl, q⟩
    | _ => exact iteF q
/-! ### End -/
def sp_End_init (K : PySem.W.Frag) (a : At) : Sp := fun vs H Q E => ∃ x dx v t, vs = [.ref x, v] ∧ H x = some (.ins a.k_End dx []) ∧ Kn H v t ∧ (isEndS v = true → Q .non (upd H x (.ins a.k_End dx [("own_depth", .int 0), ("own_end", v)]))) ∧ (isEndS v = false → Errs a.c_InvalidEnd v H E)
theorem ok_End_init (T : Txt K mg a) (hfile : ∀ (vs : Array Value) (cl : Value) (cd : Option Addr) (sl : Array (Option Value)) (tx : Str) (tf : Tok), K.lookup a.o_End_init = some ⟨cl, cd, .fields vs, sl⟩ → vs[2]? = some (.str tx tf) → ((P.main.file : Str) == tx) = true)
    (htop : (P.main.scope.names.lookup ("super" : Str)).isSome = false) : ∃ fd, FnOk P w K mg base (L2.CX P w) 3 a.m_End_init fd ["self", "end"] (sp_End_init K a) ∧ Binds K fd ["self", "end"] [] := by
  obtain ⟨fd1, F1, b1⟩ := okF_is_end (P := P) (w := w) (mg := mg) (base := base) T
  obtain ⟨fd2, F2, b2⟩ := ok_Term_init (P := P) (w := w) (mg := mg) (base := base) (CX := L2.CX P w) T
  have Z := FunS.ok (P := P) (w := w) (mg := mg) (base := base) (CX := L2.CX P w) (k := 2) (sp := sp_End_init K a) T.m_End_init sc_End_init (fun vs H Q E h => ?_) (fun A outer s H vs Q E hr h => ?_)
  · obtain ⟨fd, G, _, _, _, _, _, _, _, _, rfl, _⟩ := Z
    exact ⟨_, G, .all fun us hl => match us, hl with | [_, _], _ => rfl⟩
  · obtain ⟨_, _, _, _, rfl, _⟩ := h
    rfl
  · obtain ⟨x, dx, v, t, rfl, hx, hk, q1, q2⟩ := h
    refine ⟨_, pssAt_cons (ps_if (pt_not (pt_val (pe_call F1 (hr.mono (by decide)) (by rfl) T.d_is_end.m T.d_is_end.kp b1 .nil pass0 (pa_cons (pv 1) pa_nil)))) (pss_one (ps_raiseV (i := 1) (k := 0) rfl (W := fun cls d _ H' => E cls d H') (takes_of rfl rfl rfl rfl) T.e_InvalidEnd T.ti T.di (hr.mono (by decide)) (by rfl) (pv 1))) pss_nil)
      (pssAt_super (X := NdefX.ncx (L2.CX P w) P w K mg base ["self", "end", "__class__"] (nfOf "__init__" "End.__init__" s_End_init a.w_End_init a.o_End_init) a.m_End_init A outer s H E) (n0 := "self") rfl T.m_End_init F2 b2 (hr.mono (by decide)) (E := fun _ _ _ => False) (passes_call (takes_of rfl rfl rfl rfl) fun _ _ _ _ h => h.elim) T.z_super (by rfl) (by rfl) (by rfl) rfl (by rfl) ⟨_, rfl, rfl⟩ hfile htop (by decide) (pa_cons pe_int pa_nil)
        (pssAt_of (pss_one (ps_fld (pv 0) (pv 1) rfl)))), ?_⟩
    refine ⟨v, rfl, v, t, rfl, hk, _, rfl, ?_⟩
    cases e : isEndS v with
    | false => exact iteT ⟨v, rfl, fun d hd => (q2 e).new (Ex.refl H) hd⟩
    | true =>
      refine iteF ⟨x, a.k_End, dx, [], rfl, hx, T.s_End, x, a.k_End, dx, .int 0, rfl, hx, T.g_End.cl, T.na_End_own_depth, ?_⟩
      refine ⟨v, rfl, .ref x, rfl, x, a.k_End, dx, [("own_depth", .int 0)], rfl, upd_same, T.g_End.cl, T.na_End_own_end, by show 1 < 1000; decide, ?_⟩
      rw [upd_upd]
      exact q1 e
/-! ### the properties -/
/-- a getter of an own field -/
theorem get_own {CX : CXT} {x qual f : Str} {st : Stmt} {g C : Addr} {N : List Str} {p1 p2 p3 : Pos} (M : GMe K x qual st g) (S : FnScope N ["self"] (defScope st)) (hN : N[0]? = some ("self" : Str)) (hb : defBody st = [.Return (some (.Attribute (.Name "self" p1) f p2)) p3]) (hbi : ∀ (kV doc pm : Value) (an : Option Addr) (cdv ct : Value) (us : List Value), us.length = 1 → bindArgs (PySem.W.fnOf x qual (defArgs st) (defBody st) (defScope st) .none kV doc pm an cdv ct) ⟨us, []⟩ = pure ((["self"] : List Str).zip us)) (c : Cls K C) (n : NoAttr K C f) :
    ∃ fd, FnOk P w K mg base CX 1 g fd ["self"] (getSp C f) ∧ Binds K fd ["self"] [] := by
  obtain ⟨fd, F⟩ := M.F
  have hbd : Binds K fd ["self"] [] := F.binds hbi
  obtain ⟨oc, od, kV, doc, pm, an, cdv, ct, osl, rfl, lk, hcd⟩ := F.ex
  exact ⟨_, fn_getter lk hcd S hN hb c n, hbd⟩
theorem ok_name {CX : CXT} (T : Txt K mg a) : ∃ fd, FnOk P w K mg base CX 1 a.m_Place_name fd ["self"] (getSp a.k_Place "own_name") ∧ Binds K fd ["self"] [] := get_own T.m_Place_name sc_Place_name rfl rfl (fun _ _ _ _ _ _ us hl => match us, hl with | [_], _ => rfl) T.g_Place.cl T.na_Place_own_name
theorem ok_end {CX : CXT} (T : Txt K mg a) : ∃ fd, FnOk P w K mg base CX 1 a.m_End_end fd ["self"] (getSp a.k_End "own_end") ∧ Binds K fd ["self"] [] := get_own T.m_End_end sc_End_end rfl rfl (fun _ _ _ _ _ _ us hl => match us, hl with | [_], _ => rfl) T.g_End.cl T.na_End_own_end
theorem ok_parts_l {CX : CXT} (T : Txt K mg a) : ∃ fd, FnOk P w K mg base CX 1 a.m_Lesser_parts fd ["self"] (getSp a.k_Lesser "own_parts") ∧ Binds K fd ["self"] [] := get_own T.m_Lesser_parts sc_Lesser_parts rfl rfl (fun _ _ _ _ _ _ us hl => match us, hl with | [_], _ => rfl) T.g_Lesser.cl T.na_Lesser_own_parts
theorem ok_parts_g {CX : CXT} (T : Txt K mg a) : ∃ fd, FnOk P w K mg base CX 1 a.m_Greater_parts fd ["self"] (getSp a.k_Greater "own_parts") ∧ Binds K fd ["self"] [] := get_own T.m_Greater_parts sc_Greater_parts rfl rfl (fun _ _ _ _ _ _ us hl => match us, hl with | [_], _ => rfl) T.g_Greater.cl T.na_Greater_own_parts
theorem ok_depth {CX : CXT} (T : Txt K mg a) {C : Addr} (c : Cls K C) (n : NoAttr K C "own_depth") : ∃ fd, FnOk P w K mg base CX 1 a.m_Term_depth fd ["self"] (getSp C "own_depth") ∧ Binds K fd ["self"] [] := get_own T.m_Term_depth sc_Term_depth rfl rfl (fun _ _ _ _ _ _ us hl => match us, hl with | [_], _ => rfl) c n
end
end K13
namespace K13
open PySem PySem.Spec PyProof.Rows L2 LG Evl
/-- a statement that is never reached -/
theorem ps_no {X : Cx} {st : Stmt} : PS X st (fun _ _ _ => False) := ⟨fun _ _ _ _ _ _ h => h.elim⟩
abbrev csOf (a : At) : TM.Cs := ⟨a.k_Place, a.k_End, a.k_Lesser, a.k_Greater, a.k_Term⟩
section
variable {P : Program} {w : World} {K : PySem.W.Frag} {mg : Str → Option Value} {base : Heap} {a : At}
theorem kit_own {C D : Addr} (h1 : PySem.W.clsIn K D ≠ none) (h2 : PySem.W.typeIn K (.ref D) = some (.type "type")) {b : Bool} (hne : C ≠ D) (h : PySem.W.subIn K (.ref C) (.ref D) = some b) : PySem.W.kitOne K (.ref C) (.ref D) = some b := by
  unfold PySem.W.kitOne
  rw [if_neg (by intro z; exact hne (Value.ref.inj (beq_iff_eq.mp z)))]
  obtain ⟨cd, hc⟩ := Option.ne_none_iff_exists'.mp h1
  show (if ((PySem.W.clsIn K D).isSome && PySem.W.typeIn K (.ref D) == some (.type "type")) = true then PySem.W.subIn K (.ref C) (.ref D) else none) = some b
  rw [if_pos (by rw [hc, h2]; rfl)]
  exact h
theorem kit_self {C : Addr} : PySem.W.kitOne K (.ref C) (.ref C) = some true := by
  unfold PySem.W.kitOne
  rw [if_pos (by simp)]
theorem ty_ins {c x : Addr} {dx : Addr} {H : Hp} {fs : List (Str × V)} {nm : Str} (T : Txt K mg a) (g : GCl K mg nm c) (h : H x = some (.ins c dx fs)) : TyX K H (.ref x) (.ref c) := .base (.ins h g.cl g.ha T.hn T.htk g.hm)
/-- the class of a term, and whether it is the class at D -/
theorem tm_ty {H : Hp} {v : V} {t : TM.Tree} (T : Txt K mg a) (h : TM.TmAt (csOf a) H v t) : ∃ C, TyX K H v (.ref C) ∧ PySem.W.kitOne K (.ref C) (.ref a.k_Term) = some true := by
  have self : ∀ {C : Addr}, PySem.W.subIn K (.ref C) (.ref a.k_Term) = some true → PySem.W.kitOne K (.ref C) (.ref a.k_Term) = some true := fun {C} h => by
    by_cases e : C = a.k_Term
    · rw [e]
      exact kit_self
    · exact kit_own T.g_Term.ki.1 T.g_Term.ki.2 e h
  cases h with
  | place h => exact ⟨_, ty_ins T T.g_Place h, self T.x_Place_Term⟩
  | endd h => exact ⟨_, ty_ins T T.g_End h, self T.x_End_Term⟩
  | lesser h _ _ _ => exact ⟨_, ty_ins T T.g_Lesser h, self T.x_Lesser_Term⟩
  | greater h _ _ _ => exact ⟨_, ty_ins T T.g_Greater h, self T.x_Greater_Term⟩
def sp_want_term (a : At) : Sp := fun vs H Q _ => ∃ v t, vs = [v] ∧ TM.TmAt (csOf a) H v t ∧ Q .non H
theorem ok_want_term (T : Txt K mg a) : ∃ fd, FnOk P w K mg base CX0 1 a.want_term fd ["value"] (sp_want_term a) ∧ Binds K fd ["value"] [] := by
  obtain ⟨fd, F⟩ := T.d_want_term.F
  refine ⟨fd, F.ok sc_want_term (fun vs H Q E h => ?_) (fun cdv A outer s H vs Q E hr h => ?_), F.binds fun _ _ _ _ _ _ us hl => match us, hl with | [_], _ => rfl⟩
  · obtain ⟨_, _, rfl, _⟩ := h
    rfl
  · obtain ⟨v, t, rfl, ht, q⟩ := h
    obtain ⟨C, ty, kit⟩ := tm_ty T ht
    refine ⟨_, (pss_one (ps_if (pt_not (pt_val (pe_callB call_isi (by rfl) T.z_isinstance (by decide +kernel) (pa_cons (pv 0) (pa_cons (pe_glob (v := .ref a.k_Term) (by rfl) T.g_Term.m rfl) pa_nil))))) (pss_one ps_no) pss_nil)), ?_⟩
    exact ⟨v, rfl, v, .ref a.k_Term, _, _, _, rfl, .own _, ty, kit, _, rfl, iteF q⟩
def sp_want_terms (K : PySem.W.Frag) (a : At) : Sp := fun vs H Q _ => ∃ p xs, vs = [.ref p] ∧ SqT K H p xs ∧ (∀ x ∈ xs, ∃ t, TM.TmAt (csOf a) H x t) ∧ Q .non H
theorem ok_want_terms (T : Txt K mg a) : ∃ fd, FnOk P w K mg base CX0 2 a.want_terms fd ["values"] (sp_want_terms K a) ∧ Binds K fd ["values"] [] := by
  obtain ⟨fd1, F1, b1⟩ := ok_want_term (P := P) (w := w) (mg := mg) (base := base) T
  obtain ⟨fd, F⟩ := T.d_want_terms.F
  refine ⟨fd, F.ok sc_want_terms (fun vs H Q E h => ?_) (fun cdv A outer s H vs Q E hr h => ?_), F.binds fun _ _ _ _ _ _ us hl => match us, hl with | [_], _ => rfl⟩
  · obtain ⟨_, _, rfl, _⟩ := h
    rfl
  · obtain ⟨p, xs, rfl, hs, hx, q⟩ := h
    have nd := sc_want_terms.nd
    refine ⟨_, (pss_one (ps_for PassesOwn.never rfl (pi_tup (pv 0)) (pg_name (i := 1) nd rfl (.inl rfl)) (pss_one (ps_expr (pe_call F1 (hr.mono (by decide)) (by rfl) T.d_want_term.m T.d_want_term.kp b1 .nil pass0 (pa_cons (pv 1) pa_nil)))))), ?_⟩
    refine ⟨.ref p, rfl, p, rfl, ⟨xs, hs⟩, for_tup (K := K) (a := p) (xs := xs) (fun i σ H2 => H2 = H ∧ ∃ u, σ = [some (.ref p), u]) ⟨rfl, none, rfl⟩ (fun i σ H2 _ h => h.1 ▸ hs) ?_ (fun σ H2 h => h.1 ▸ q)⟩
    rintro i y σ H2 hi ⟨rfl, u, rfl⟩
    obtain ⟨t, ht⟩ := hx y (List.mem_of_getElem? hi)
    exact ⟨y, rfl, y, t, rfl, ht, rfl, some y, rfl⟩
end
end K13
namespace K13
open PySem PySem.Spec PyProof.Rows L2 LG Evl
section
variable {P : Program} {w : World} {K : PySem.W.Frag} {mg : Str → Option Value} {base : Heap} {a : At}
/-! ### which field a property hands out -/
def gDepth (a : At) : Addr → Str → Prop := fun C fld => (C = a.k_Place ∨ C = a.k_End ∨ C = a.k_Lesser ∨ C = a.k_Greater) ∧ fld = "own_depth"
def gParts (a : At) : Addr → Str → Prop := fun C fld => (C = a.k_Lesser ∨ C = a.k_Greater) ∧ fld = "own_parts"
def gNm (a : At) : Addr → Str → Prop := fun C fld => C = a.k_Place ∧ fld = "own_name"
def gEnd (a : At) : Addr → Str → Prop := fun C fld => C = a.k_End ∧ fld = "own_end"
theorem g_depth {CX : CXT} (T : Txt K mg a) : ∀ C fld, gDepth a C fld → PropG P w K mg base CX C "depth" fld := by
  rintro C fld ⟨rfl | rfl | rfl | rfl, rfl⟩
  · obtain ⟨fd, F, b⟩ := ok_depth (P := P) (w := w) (mg := mg) (base := base) (CX := CX) T T.g_Place.cl T.na_Place_own_depth
    exact ⟨T.g_Place.cl, _, _, _, T.p_Place_depth, F, b⟩
  · obtain ⟨fd, F, b⟩ := ok_depth (P := P) (w := w) (mg := mg) (base := base) (CX := CX) T T.g_End.cl T.na_End_own_depth
    exact ⟨T.g_End.cl, _, _, _, T.p_End_depth, F, b⟩
  · obtain ⟨fd, F, b⟩ := ok_depth (P := P) (w := w) (mg := mg) (base := base) (CX := CX) T T.g_Lesser.cl T.na_Lesser_own_depth
    exact ⟨T.g_Lesser.cl, _, _, _, T.p_Lesser_depth, F, b⟩
  · obtain ⟨fd, F, b⟩ := ok_depth (P := P) (w := w) (mg := mg) (base := base) (CX := CX) T T.g_Greater.cl T.na_Greater_own_depth
    exact ⟨T.g_Greater.cl, _, _, _, T.p_Greater_depth, F, b⟩
theorem g_parts {CX : CXT} (T : Txt K mg a) : ∀ C fld, gParts a C fld → PropG P w K mg base CX C "parts" fld := by
  rintro C fld ⟨rfl | rfl, rfl⟩
  · obtain ⟨fd, F, b⟩ := ok_parts_l (P := P) (w := w) (mg := mg) (base := base) (CX := CX) T
    exact ⟨T.g_Lesser.cl, _, _, _, T.p_Lesser_parts, F, b⟩
  · obtain ⟨fd, F, b⟩ := ok_parts_g (P := P) (w := w) (mg := mg) (base := base) (CX := CX) T
    exact ⟨T.g_Greater.cl, _, _, _, T.p_Greater_parts, F, b⟩
theorem g_nm {CX : CXT} (T : Txt K mg a) : ∀ C fld, gNm a C fld → PropG P w K mg base CX C "name" fld := by
  rintro C fld ⟨rfl, rfl⟩
  obtain ⟨fd, F, b⟩ := ok_name (P := P) (w := w) (mg := mg) (base := base) (CX := CX) T
  exact ⟨T.g_Place.cl, _, _, _, T.p_Place_name, F, b⟩
theorem g_end {CX : CXT} (T : Txt K mg a) : ∀ C fld, gEnd a C fld → PropG P w K mg base CX C "end" fld := by
  rintro C fld ⟨rfl, rfl⟩
  obtain ⟨fd, F, b⟩ := ok_end (P := P) (w := w) (mg := mg) (base := base) (CX := CX) T
  exact ⟨T.g_End.cl, _, _, _, T.p_End_end, F, b⟩
/-- a term's depth is in its field -/
theorem tm_depth {H : Hp} {v : V} {t : TM.Tree} (h : TM.TmAt (csOf a) H v t) : ∃ x C dx fs, v = .ref x ∧ H x = some (.ins C dx fs) ∧ gDepth a C "own_depth" ∧ fs.lookup ("own_depth" : Str) = some (V.int (t.depth : Nat)) := by
  cases h with
  | place h => exact ⟨_, _, _, _, rfl, h, ⟨.inl rfl, rfl⟩, by simp [List.lookup, TM.Tree.depth]⟩
  | endd h => exact ⟨_, _, _, _, rfl, h, ⟨.inr (.inl rfl), rfl⟩, by simp [List.lookup, TM.Tree.depth]⟩
  | lesser h _ _ _ => exact ⟨_, _, _, _, rfl, h, ⟨.inr (.inr (.inl rfl)), rfl⟩, by simp [List.lookup]⟩
  | greater h _ _ _ => exact ⟨_, _, _, _, rfl, h, ⟨.inr (.inr (.inr rfl)), rfl⟩, by simp [List.lookup]⟩
theorem depthAll_max : ∀ {ts : List TM.Tree}, 0 < ts.length → (TM.Tree.depthAll ts) ∈ ts.map TM.Tree.depth
  | [t], _ => by simp [TM.Tree.depthAll]
  | t :: u :: us, _ => by
    have ih := depthAll_max (ts := u :: us) (by simp)
    rw [TM.Tree.depthAll]
    rcases Nat.le_total t.depth (TM.Tree.depthAll (u :: us)) with h | h
    · rw [Nat.max_eq_right h, List.map_cons]
      exact List.mem_cons_of_mem _ ih
    · rw [Nat.max_eq_left h, List.map_cons]
      exact List.mem_cons_self
theorem depthAll_is {ts : List TM.Tree} {m : Int} (h : m ∈ ts.map fun t => ((t.depth : Nat) : Int)) (hm : ∀ y ∈ ts.map fun t => ((t.depth : Nat) : Int), y ≤ m) : m = ((TM.Tree.depthAll ts : Nat) : Int) := by
  obtain ⟨t, ht, rfl⟩ := List.mem_map.mp h
  have h1 := TM.depth_mem ht
  have h2 : TM.Tree.depthAll ts ∈ ts.map TM.Tree.depth := depthAll_max (List.length_pos_of_mem ht)
  obtain ⟨u, hu, e⟩ := List.mem_map.mp h2
  have h3 := hm _ (List.mem_map.mpr ⟨u, hu, rfl⟩)
  omega
theorem ev_maxL {K : PySem.W.Frag} {te : TE} {σ : L2.St} {H : Hp} {ns : List Int} {m : Int} (h : EvL te σ H (ns.map V.int)) (hne : 0 < ns.length) (hu : ∀ k, k ∈ ns → (∀ y, y ∈ ns → y ≤ k) → k = m) : Ev (tCB (rMax K) (tCons te tNil)) σ H (.int m) :=
  fun H1 e Q q => h H1 e _ fun p H2 hp e2 hl => ⟨p, ns, rfl, sq_of hl, hne, fun k a b => (hu k a b) ▸ q H2 e2⟩
/-! ### depth_above, of parts that can be -/
def sp_depth_above (K : PySem.W.Frag) (a : At) : Sp := fun vs H Q _ => ∃ p xs ts, vs = [.ref p] ∧ SqT K H p xs ∧ xs.length = ts.length ∧ 2 ≤ xs.length ∧ xs.length ≤ 1000 ∧ (∀ (i : Nat) (x : V) (t : TM.Tree), xs[i]? = some x → ts[i]? = some t → TM.TmAt (csOf a) H x t) ∧ ∀ H', Ex H H' → Q (.int ((TM.Tree.depthAll ts + 1 : Nat) : Int)) H'
theorem ok_depth_above (T : Txt K mg a) : ∃ fd, FnOk P w K mg base CX0 3 a.depth_above fd ["terms"] (sp_depth_above K a) ∧ Binds K fd ["terms"] [] := by
  obtain ⟨fd1, F1, b1⟩ := ok_want_terms (P := P) (w := w) (mg := mg) (base := base) T
  obtain ⟨fd, F⟩ := T.d_depth_above.F
  refine ⟨fd, F.ok sc_depth_above (fun vs H Q E h => ?_) (fun cdv A outer s H vs Q E hr h => ?_), F.binds fun _ _ _ _ _ _ us hl => match us, hl with | [_], _ => rfl⟩
  · obtain ⟨_, _, _, rfl, _⟩ := h
    rfl
  · obtain ⟨p, xs, ts, rfl, hs, hl, h2, hz, hx, q⟩ := h
    have nd := sc_depth_above.nd
    refine ⟨_, (pss_cons (ps_if (pt_cmpR op_lt (pe_callB call_len_seq (by rfl) T.z_len (by decide +kernel) (pa_cons (pv 0) pa_nil)) (pe_glob (v := .int 2) (by rfl) T.v_LEAST_PARTS ⟨_, rfl⟩) (nomark _)) (pss_one ps_no) pss_nil)
      (pss_cons (ps_expr (pe_call F1 (hr.mono (by decide)) (by rfl) T.d_want_terms.m T.d_want_terms.kp b1 .nil pass0 (pa_cons (pv 0) pa_nil)))
      (pss_one (ps_ret (pe_op op_add pe_int (pe_callB (cr_max rfl) (by rfl) T.z_max (by decide +kernel) (pa_cons (pe_lc rfl (own := [("term", 1)]) (g := gName 1) (by exact nd) (pi_tup (pv 0)) (blkOk_by (own := [("term", 1)]) (N := ["terms", "term"]) (sc := defScope s_depth_above) (by decide +kernel)) (fun _ _ _ _ _ => pg_name (i := 1) nd rfl (.inl rfl)) (fun _ _ _ _ _ => pts_nil)
        (fun _ _ _ _ _ => pe_getA (G := gDepth a) (CX := CX0) (pv 1) (g_depth T) (hr.mono (by decide)) pass0 rfl)) pa_nil))))))), ?_⟩
    refine s_if (b := false) (et_test (ev_is (ev_op (ev_cb (ea_cons (ev_var rfl) ea_nil) (z := .int (xs.length : Nat)) fun H1 e Q q => ⟨p, xs, rfl, .inr (ex_t e hs), q H1 (Ex.refl H1)⟩) ev_c rv_I0) (by
      congr 1
      rw [decide_eq_false_iff_not]
      omega))) (fun h => nomatch h) fun _ H1 e1 => ?_
    refine s_drop (v := .non) (ev_call (ea_cons (ev_var rfl) ea_nil) fun H2 e2 Q q E => ⟨p, xs, rfl, ex_t (e1.trans e2) hs, fun x hx0 => by
      obtain ⟨i, hi⟩ := List.mem_iff_getElem?.mp hx0
      have hi2 : i < ts.length := hl ▸ (List.getElem?_eq_some_iff.mp hi).1
      exact ⟨ts[i], (hx i x _ hi (List.getElem?_eq_getElem hi2)).up (e1.trans e2)⟩, q H2 (Ex.refl H2)⟩) fun H2 e2 => ?_
    have e02 := e1.trans e2
    have L : EvL (tLc (iTup K (tVar 0)) (gName 1) tYes (tGetA (gDepth a) (tVar 1)) [1]) [some (.ref p), none] H2 ((ts.map fun t => ((t.depth : Nat) : Int)).map V.int) := by
      refine el_tmap (ev_var rfl) (ex_t e02 hs) (by omega) (by rw [List.length_map, List.length_map]; exact hl) (fun x => rfl) (fun i x y H3 e3 hi hy => ?_)
      rw [List.getElem?_map, List.getElem?_map] at hy
      obtain ⟨n, hn, rfl⟩ := Option.map_eq_some_iff.mp hy
      obtain ⟨t, ht, rfl⟩ := Option.map_eq_some_iff.mp hn
      obtain ⟨b, C, dx, fs, rfl, hb, g, hv⟩ := tm_depth ((hx i x t hi ht).up (e02.trans e3))
      exact ev_getA (ev_var rfl) hb g hv
    refine s_ret (ev_is (ev_op ev_c (ev_maxL L (by rw [List.length_map]; omega) fun m a b => depthAll_is a b) rv_I0) ?_) fun H3 e3 => q H3 (e02.trans e3)
    congr 1
    push_cast
    omega
end
end K13
namespace K13
open PySem PySem.Spec PyProof.Rows L2 LG Evl
section
variable {P : Program} {w : World} {K : PySem.W.Frag} {mg : Str → Option Value} {base : Heap} {a : At}
/-! ### Lesser, Greater: made of two or more terms -/
/-- the heap, with the parts' tuple at p: x's depth and its parts are set -/
def sp_two_init (a : At) (C : Addr) : Sp := fun vs H Q _ => ∃ x dx p xs ts, vs = [.ref x, .ref p] ∧ H x = some (.ins C dx []) ∧ H p = some (.tup xs) ∧ xs.length = ts.length ∧ 2 ≤ xs.length ∧ xs.length ≤ 1000 ∧ (∀ (i : Nat) (y : V) (t : TM.Tree), xs[i]? = some y → ts[i]? = some t → TM.TmAt (csOf a) H y t) ∧
  ∀ H', Ex H H' → Q .non (upd H' x (.ins C dx [("own_depth", .int ((TM.Tree.depthAll ts + 1 : Nat) : Int)), ("own_parts", .ref p)]))
theorem ok_Lesser_init (T : Txt K mg a) (hfile : ∀ (vs : Array Value) (cl : Value) (cd : Option Addr) (sl : Array (Option Value)) (tx : Str) (tf : Tok), K.lookup a.o_Lesser_init = some ⟨cl, cd, .fields vs, sl⟩ → vs[2]? = some (.str tx tf) → ((P.main.file : Str) == tx) = true)
    (htop : (P.main.scope.names.lookup ("super" : Str)).isSome = false) : FnR P w K mg base (L2.CX P w) 5 a.m_Lesser_init (fun vs H Q E => ∃ v ws, vs = v :: ws ∧ ws.length ≤ sizeLine ∧ ∀ p, H p = none → sp_two_init a a.k_Lesser [v, V.ref p] (upd H p (.tup ws)) Q E) := by
  obtain ⟨fd1, F1, b1⟩ := ok_depth_above (P := P) (w := w) (mg := mg) (base := base) T
  obtain ⟨fd2, F2, b2⟩ := ok_Term_init (P := P) (w := w) (mg := mg) (base := base) (CX := L2.CX P w) T
  refine FunS.star (P := P) (w := w) (mg := mg) (base := base) (CX := L2.CX P w) (k := 4) (sp := sp_two_init a a.k_Lesser) T.m_Lesser_init sc_Lesser_init StX.cxUp (fun kV doc pm an ct u us => match us with | [] => rfl | _ :: _ => rfl) (fun A outer s H vs Q E hr h => ?_)
  obtain ⟨x, dx, p, xs, ts, rfl, hx, hp, hl, h2, hz, ht, q⟩ := h
  refine ⟨_, (pssAt_super (X := NdefX.ncx (L2.CX P w) P w K mg base ["self", "terms", "__class__"] (nfOf "__init__" "Lesser.__init__" s_Lesser_init a.w_Lesser_init a.o_Lesser_init) a.m_Lesser_init A outer s H E) (n0 := "self") rfl T.m_Lesser_init F2 b2 (hr.mono (by decide)) (E := fun _ _ _ => False) (passes_call (takes_of rfl rfl rfl rfl) fun _ _ _ _ h => h.elim) T.z_super (by rfl) (by rfl) (by rfl) rfl (by rfl) ⟨_, rfl, rfl⟩ hfile htop (by decide) (pa_cons (pe_call F1 (hr.mono (by decide)) (by rfl) T.d_depth_above.m T.d_depth_above.kp b1 .nil pass0 (pa_cons (pv 1) pa_nil)) pa_nil)
        (pssAt_of (pss_one (ps_fld (pv 0) (pv 1) rfl)))), ?_⟩
  refine ⟨x, a.k_Lesser, dx, [], rfl, hx, T.s_Lesser, .ref p, rfl, p, xs, ts, rfl, st_of hp, hl, h2, hz, ht, fun H' e => ?_⟩
  refine ⟨x, a.k_Lesser, dx, _, rfl, e _ _ hx, T.g_Lesser.cl, T.na_Lesser_own_depth, ?_⟩
  refine ⟨.ref p, rfl, .ref x, rfl, x, a.k_Lesser, dx, [("own_depth", _)], rfl, upd_same, T.g_Lesser.cl, T.na_Lesser_own_parts, by show 1 < 1000; decide, ?_⟩
  rw [upd_upd]
  exact q H' e
theorem ok_Greater_init (T : Txt K mg a) (hfile : ∀ (vs : Array Value) (cl : Value) (cd : Option Addr) (sl : Array (Option Value)) (tx : Str) (tf : Tok), K.lookup a.o_Greater_init = some ⟨cl, cd, .fields vs, sl⟩ → vs[2]? = some (.str tx tf) → ((P.main.file : Str) == tx) = true)
    (htop : (P.main.scope.names.lookup ("super" : Str)).isSome = false) : FnR P w K mg base (L2.CX P w) 5 a.m_Greater_init (fun vs H Q E => ∃ v ws, vs = v :: ws ∧ ws.length ≤ sizeLine ∧ ∀ p, H p = none → sp_two_init a a.k_Greater [v, V.ref p] (upd H p (.tup ws)) Q E) := by
  obtain ⟨fd1, F1, b1⟩ := ok_depth_above (P := P) (w := w) (mg := mg) (base := base) T
  obtain ⟨fd2, F2, b2⟩ := ok_Term_init (P := P) (w := w) (mg := mg) (base := base) (CX := L2.CX P w) T
  refine FunS.star (P := P) (w := w) (mg := mg) (base := base) (CX := L2.CX P w) (k := 4) (sp := sp_two_init a a.k_Greater) T.m_Greater_init sc_Greater_init StX.cxUp (fun kV doc pm an ct u us => match us with | [] => rfl | _ :: _ => rfl) (fun A outer s H vs Q E hr h => ?_)
  obtain ⟨x, dx, p, xs, ts, rfl, hx, hp, hl, h2, hz, ht, q⟩ := h
  refine ⟨_, (pssAt_super (X := NdefX.ncx (L2.CX P w) P w K mg base ["self", "terms", "__class__"] (nfOf "__init__" "Greater.__init__" s_Greater_init a.w_Greater_init a.o_Greater_init) a.m_Greater_init A outer s H E) (n0 := "self") rfl T.m_Greater_init F2 b2 (hr.mono (by decide)) (E := fun _ _ _ => False) (passes_call (takes_of rfl rfl rfl rfl) fun _ _ _ _ h => h.elim) T.z_super (by rfl) (by rfl) (by rfl) rfl (by rfl) ⟨_, rfl, rfl⟩ hfile htop (by decide) (pa_cons (pe_call F1 (hr.mono (by decide)) (by rfl) T.d_depth_above.m T.d_depth_above.kp b1 .nil pass0 (pa_cons (pv 1) pa_nil)) pa_nil)
        (pssAt_of (pss_one (ps_fld (pv 0) (pv 1) rfl)))), ?_⟩
  refine ⟨x, a.k_Greater, dx, [], rfl, hx, T.s_Greater, .ref p, rfl, p, xs, ts, rfl, st_of hp, hl, h2, hz, ht, fun H' e => ?_⟩
  refine ⟨x, a.k_Greater, dx, _, rfl, e _ _ hx, T.g_Greater.cl, T.na_Greater_own_depth, ?_⟩
  refine ⟨.ref p, rfl, .ref x, rfl, x, a.k_Greater, dx, [("own_depth", _)], rfl, upd_same, T.g_Greater.cl, T.na_Greater_own_parts, by show 1 < 1000; decide, ?_⟩
  rw [upd_upd]
  exact q H' e
end
end K13
namespace K13
open PySem PySem.Spec PyProof.Rows L2 LG Evl
section
variable {P : Program} {w : World} {K : PySem.W.Frag} {mg : Str → Option Value} {base : Heap} {a : At}
theorem kit_of {C D : Addr} {nm : Str} {b : Bool} (g : GCl K mg nm D) (h : PySem.W.subIn K (.ref C) (.ref D) = some b) (self : PySem.W.subIn K (.ref D) (.ref D) = some true) : PySem.W.kitOne K (.ref C) (.ref D) = some b := by
  by_cases e : C = D
  · subst e
    rw [self] at h
    cases h
    exact kit_self
  · exact kit_own g.ki.1 g.ki.2 e h
/-- what a term's representation wants to be made: no list, no text is too long -/
inductive RepOk : TM.Tree → Prop
  | place {n : Str} (h : (reprText n).length ≤ 1000) : RepOk (.place n)
  | endd {e : Str} (h : (reprText e).length ≤ 1000) : RepOk (.endd e)
  | lesser {ts : List TM.Tree} (h1 : ts.length ≤ 1000) (h2 : ((TM.Tree.reprAll ts).map (·.length)).sum + ts.length * 2 ≤ 1000000) (hr : ∀ t ∈ ts, RepOk t) : RepOk (.lesser ts)
  | greater {ts : List TM.Tree} (h1 : ts.length ≤ 1000) (h2 : ((TM.Tree.reprAll ts).map (·.length)).sum + ts.length * 2 ≤ 1000000) (hr : ∀ t ∈ ts, RepOk t) : RepOk (.greater ts)
theorem et_isB {te : TE} {σ : L2.St} {H : Hp} {x : V} {C : Value} {D : Addr} {b : Bool} (hx : Ev te σ H x) (ty : ∀ H1, Ex H H1 → TyX K H1 x C) (hk : PySem.W.kitOne K C (.ref D) = some b) : EvT (tB (tCB (rIsi K) (tCons te (tCons (tC (.ref D)) tNil)))) σ H b :=
  et_B (ev_cb (ea_cons hx (ea_cons ev_c ea_nil)) fun H1 e Q q => ⟨x, .ref D, C, .ref D, b, rfl, .own D, ty H1 e, hk, q H1 (Ex.refl H1)⟩)
theorem len3 (a b c : Str) : (a ++ b ++ c).length = a.length + b.length + c.length := by rw [PySem.Str.length_append, PySem.Str.length_append]
theorem joinS_len (sep : Str) : ∀ ys : List Str, (TM.joinS sep ys).length ≤ (ys.map (·.length)).sum + ys.length * sep.length
  | [] => Nat.zero_le _
  | [x] => by simp [TM.joinS]
  | x :: y :: r => by
    have ih := joinS_len sep (y :: r)
    rw [TM.joinS, len3, List.map_cons, List.sum_cons, List.length_cons, Nat.succ_mul]
    omega
theorem reprAll_at : ∀ {ts : List TM.Tree} {i : Nat} {t : TM.Tree}, ts[i]? = some t → (TM.Tree.reprAll ts)[i]? = some t.repr
  | t :: ts, 0, u, h => by
    simp at h
    subst h
    simp [TM.Tree.reprAll]
  | t :: ts, i + 1, u, h => by
    simp at h
    simp [TM.Tree.reprAll]
    exact reprAll_at h
theorem reprAll_len : ∀ {ts : List TM.Tree}, (TM.Tree.reprAll ts).length = ts.length
  | [] => rfl
  | t :: ts => by rw [TM.Tree.reprAll, List.length_cons, List.length_cons, reprAll_len]
/-- a term of depth below n -/
def sp_term_repr (a : At) (n : Nat) : Sp := fun vs H Q _ => ∃ v t, vs = [v] ∧ TM.TmAt (csOf a) H v t ∧ RepOk t ∧ t.depth < n ∧ ∀ H', Ex H H' → Q (.str t.repr) H'
theorem ok_term_repr (T : Txt K mg a) : ∀ n, ∃ fd, FnOk P w K mg base CX0 (n + 2) a.term_repr fd ["term"] (sp_term_repr a n) ∧ Binds K fd ["term"] [] := by
  intro n
  induction n with
  | zero =>
    obtain ⟨fd, F⟩ := T.d_term_repr.F
    refine ⟨fd, F.ok sc_term_repr (fun vs H Q E h => ?_) (fun cdv A outer s H vs Q E hr h => ?_), F.binds fun _ _ _ _ _ _ us hl => match us, hl with | [_], _ => rfl⟩
    · obtain ⟨_, _, rfl, _⟩ := h
      rfl
    · obtain ⟨_, t, _, _, _, hd, _⟩ := h
      exact absurd hd (Nat.not_lt_zero _)
  | succ n ih =>
    obtain ⟨fd1, F1, b1⟩ := ih
    obtain ⟨fd, F⟩ := T.d_term_repr.F
    refine ⟨fd, F.ok sc_term_repr (fun vs H Q E h => ?_) (fun cdv A outer s H vs Q E hr h => ?_), F.binds fun _ _ _ _ _ _ us hl => match us, hl with | [_], _ => rfl⟩
    · obtain ⟨_, _, rfl, _⟩ := h
      rfl
    · obtain ⟨v, t, rfl, ht, ok, hd, q⟩ := h
      have nd := sc_term_repr.nd
      have hr2 := hr.mono (j := 2) (by omega)
      refine ⟨_, (pss_cons (ps_if (pt_val (pe_callB call_isi (by rfl) T.z_isinstance (by decide +kernel) (pa_cons (pv 0) (pa_cons (pe_glob (v := .ref a.k_Place) (by rfl) T.g_Place.m rfl) pa_nil)))) (pss_one (ps_ret (pe_joined (.cons pe_str (.cons (pe_fmtR (pe_getA (G := gNm a) (CX := CX0) (pv 0) (g_nm T) hr2 pass0 rfl)) (.cons pe_str .nil)))))) pss_nil)
        (pss_cons (ps_if (pt_val (pe_callB call_isi (by rfl) T.z_isinstance (by decide +kernel) (pa_cons (pv 0) (pa_cons (pe_glob (v := .ref a.k_End) (by rfl) T.g_End.m rfl) pa_nil)))) (pss_one (ps_ret (pe_joined (.cons pe_str (.cons (pe_fmtR (pe_getA (G := gEnd a) (CX := CX0) (pv 0) (g_end T) hr2 pass0 rfl)) (.cons pe_str .nil)))))) pss_nil)
        (pss_cons (ps_set (i := 1) nd rfl (.inl rfl) (pe_join pe_str (pe_lc rfl (own := [("part", 2)]) (g := gName 2) (by exact nd) (pi_tup (pe_getA (G := gParts a) (CX := CX0) (pv 0) (g_parts T) hr2 pass0 rfl)) (blkOk_by (own := [("part", 2)]) (N := ["term", "inner", "part"]) (sc := defScope s_term_repr) (by decide +kernel)) (fun _ _ _ _ _ => pg_name (i := 2) nd rfl (.inl rfl)) (fun _ _ _ _ _ => pts_nil)
          (fun _ _ _ _ _ => pe_call F1 hr (by rfl) T.d_term_repr.m T.d_term_repr.kp b1 .nil pass0 (pa_cons (pv 2) pa_nil)))))
        (pss_one (ps_ret (pe_ifExp (pt_val (pe_callB call_isi (by rfl) T.z_isinstance (by decide +kernel) (pa_cons (pv 0) (pa_cons (pe_glob (v := .ref a.k_Lesser) (by rfl) T.g_Lesser.m rfl) pa_nil)))) (pe_joined (.cons pe_str (.cons (pe_fmt (pv 1)) (.cons pe_str .nil)))) (pe_joined (.cons pe_str (.cons (pe_fmt (pv 1)) (.cons pe_str .nil)))))))))), ?_⟩
      cases ht with
      | @place x dx nm hx =>
        cases ok with
        | place hz =>
          refine s_if (b := true) (et_isT (ev_var rfl) (fun H1 e => ty_ins T T.g_Place (e _ _ hx)) (kit_of T.g_Place T.x_Place_Place T.x_Place_Place)) (fun _ H1 e1 => ?_) (fun z => nomatch z)
          refine s_ret (ev_joined3 (ev_fmtR (ev_getA (ev_var rfl) (e1 _ _ hx) ⟨rfl, rfl⟩ rfl) (by omega)) rfl (by decide) (sz_of ?_) (sz_of ?_)) fun H2 e2 => q H2 (e1.trans e2)
          · rw [PySem.Str.length_append]
            have : ("Place(" : Str).length = 6 := by decide
            omega
          · rw [len3]
            have h1 : ("Place(" : Str).length = 6 := by decide
            have h2 : (")" : Str).length = 1 := by decide
            omega
      | @endd x dx nm hx =>
        cases ok with
        | endd hz =>
          refine s_if (b := false) (et_isT (ev_var rfl) (fun H1 e => ty_ins T T.g_End (e _ _ hx)) (kit_of T.g_Place T.x_End_Place T.x_Place_Place)) (fun z => nomatch z) (fun _ H1 e1 => ?_)
          refine s_if (b := true) (et_isT (ev_var rfl) (fun H2 e => ty_ins T T.g_End ((e1.trans e) _ _ hx)) (kit_of T.g_End T.x_End_End T.x_End_End)) (fun _ H2 e2 => ?_) (fun z => nomatch z)
          refine s_ret (ev_joined3 (ev_fmtR (ev_getA (ev_var rfl) ((e1.trans e2) _ _ hx) ⟨rfl, rfl⟩ rfl) (by omega)) rfl (by decide) (sz_of ?_) (sz_of ?_)) fun H3 e3 => q H3 ((e1.trans e2).trans e3)
          · rw [PySem.Str.length_append]
            have : ("End(" : Str).length = 4 := by decide
            omega
          · rw [len3]
            have h1 : ("End(" : Str).length = 4 := by decide
            have h2 : (")" : Str).length = 1 := by decide
            omega
      | @lesser x dx p xs ts hx hp hl hxs =>
        cases ok with
        | lesser hz1 hz2 hok =>
          refine s_if (b := false) (et_isT (ev_var rfl) (fun H1 e => ty_ins T T.g_Lesser (e _ _ hx)) (kit_of T.g_Place T.x_Lesser_Place T.x_Place_Place)) (fun z => nomatch z) (fun _ H1 e1 => ?_)
          refine s_if (b := false) (et_isT (ev_var rfl) (fun H2 e => ty_ins T T.g_Lesser ((e1.trans e) _ _ hx)) (kit_of T.g_End T.x_Lesser_End T.x_End_End)) (fun z => nomatch z) (fun _ H2 e2 => ?_)
          have e02 := e1.trans e2
          have hn : TM.Tree.depthAll ts < n := Nat.lt_of_succ_lt_succ (by simpa [TM.Tree.depth] using hd)
          have L : EvL (tLc (iTup K (tGetA (gParts a) (tVar 0))) (gName 2) tYes (tCall (sp_term_repr a n) [] (fun _ _ _ => False) (tCons (tVar 2) tNil)) [2]) [some (.ref x), none, none] H2 ((TM.Tree.reprAll ts).map V.str) := by
            refine el_tmap (ev_getA (ev_var rfl) (e02 _ _ hx) ⟨.inl rfl, rfl⟩ rfl) (st_of (e02 _ _ hp)) (by omega) (by rw [List.length_map, reprAll_len]; exact hl) (fun x => rfl) (fun i y z H3 e3 hi hz => ?_)
            rw [List.getElem?_map] at hz
            obtain ⟨u, hu, rfl⟩ := Option.map_eq_some_iff.mp hz
            have hi2 : i < ts.length := hl ▸ (List.getElem?_eq_some_iff.mp hi).1
            have ht : ts[i]? = some ts[i] := List.getElem?_eq_getElem hi2
            have hu2 := reprAll_at ht
            rw [hu] at hu2
            cases hu2
            refine ev_call (ea_cons (ev_var rfl) ea_nil) fun H4 e4 Q q E => ⟨y, ts[i], rfl, (hxs i y _ hi ht).up ((e02.trans e3).trans e4), hok _ (List.getElem_mem hi2), Nat.lt_of_le_of_lt (TM.depth_mem (List.getElem_mem hi2)) hn, fun H5 e5 => q H5 e5⟩
          have hj := joinS_len ", " (TM.Tree.reprAll ts)
          have hc : (", " : Str).length = 2 := by decide
          rw [hc, reprAll_len] at hj
          refine s_asg (ev_join L (by rw [hc, reprAll_len]; omega)) fun H3 e3 => ?_
          dsimp only
          refine s_ret (ev_if (b := true) (et_isB (ev_var rfl) (fun H4 e => ty_ins T T.g_Lesser ((e02.trans (e3.trans e)) _ _ hx)) (kit_of T.g_Lesser T.x_Lesser_Lesser T.x_Lesser_Lesser)) (fun _ => ?_) (fun _ => ?_)) fun H4 e4 => q H4 (e02.trans (e3.trans e4))
          · refine ev_joined3 (ev_fmt (ev_var rfl) (Nat.le_trans (Nat.le_trans hj hz2) (by decide))) rfl (by decide) ?_ ?_
            · refine Nat.le_trans (m := 1000020) ?_ (by decide)
              rw [PySem.Str.length_append]
              have : ("Lesser(" : Str).length = 7 := by decide
              omega
            · refine Nat.le_trans (m := 1000020) ?_ (by decide)
              rw [len3]
              have h1 : ("Lesser(" : Str).length = 7 := by decide
              have h2 : (")" : Str).length = 1 := by decide
              omega
          · contradiction
      | @greater x dx p xs ts hx hp hl hxs =>
        cases ok with
        | greater hz1 hz2 hok =>
          refine s_if (b := false) (et_isT (ev_var rfl) (fun H1 e => ty_ins T T.g_Greater (e _ _ hx)) (kit_of T.g_Place T.x_Greater_Place T.x_Place_Place)) (fun z => nomatch z) (fun _ H1 e1 => ?_)
          refine s_if (b := false) (et_isT (ev_var rfl) (fun H2 e => ty_ins T T.g_Greater ((e1.trans e) _ _ hx)) (kit_of T.g_End T.x_Greater_End T.x_End_End)) (fun z => nomatch z) (fun _ H2 e2 => ?_)
          have e02 := e1.trans e2
          have hn : TM.Tree.depthAll ts < n := Nat.lt_of_succ_lt_succ (by simpa [TM.Tree.depth] using hd)
          have L : EvL (tLc (iTup K (tGetA (gParts a) (tVar 0))) (gName 2) tYes (tCall (sp_term_repr a n) [] (fun _ _ _ => False) (tCons (tVar 2) tNil)) [2]) [some (.ref x), none, none] H2 ((TM.Tree.reprAll ts).map V.str) := by
            refine el_tmap (ev_getA (ev_var rfl) (e02 _ _ hx) ⟨.inr rfl, rfl⟩ rfl) (st_of (e02 _ _ hp)) (by omega) (by rw [List.length_map, reprAll_len]; exact hl) (fun x => rfl) (fun i y z H3 e3 hi hz => ?_)
            rw [List.getElem?_map] at hz
            obtain ⟨u, hu, rfl⟩ := Option.map_eq_some_iff.mp hz
            have hi2 : i < ts.length := hl ▸ (List.getElem?_eq_some_iff.mp hi).1
            have ht : ts[i]? = some ts[i] := List.getElem?_eq_getElem hi2
            have hu2 := reprAll_at ht
            rw [hu] at hu2
            cases hu2
            refine ev_call (ea_cons (ev_var rfl) ea_nil) fun H4 e4 Q q E => ⟨y, ts[i], rfl, (hxs i y _ hi ht).up ((e02.trans e3).trans e4), hok _ (List.getElem_mem hi2), Nat.lt_of_le_of_lt (TM.depth_mem (List.getElem_mem hi2)) hn, fun H5 e5 => q H5 e5⟩
          have hj := joinS_len ", " (TM.Tree.reprAll ts)
          have hc : (", " : Str).length = 2 := by decide
          rw [hc, reprAll_len] at hj
          refine s_asg (ev_join L (by rw [hc, reprAll_len]; omega)) fun H3 e3 => ?_
          dsimp only
          refine s_ret (ev_if (b := false) (et_isB (ev_var rfl) (fun H4 e => ty_ins T T.g_Greater ((e02.trans (e3.trans e)) _ _ hx)) (kit_of T.g_Lesser T.x_Greater_Lesser T.x_Lesser_Lesser)) (fun _ => ?_) (fun _ => ?_)) fun H4 e4 => q H4 (e02.trans (e3.trans e4))
          · contradiction
          · refine ev_joined3 (ev_fmt (ev_var rfl) (Nat.le_trans (Nat.le_trans hj hz2) (by decide))) rfl (by decide) ?_ ?_
            · refine Nat.le_trans (m := 1000020) ?_ (by decide)
              rw [PySem.Str.length_append]
              have : ("Greater(" : Str).length = 8 := by decide
              omega
            · refine Nat.le_trans (m := 1000020) ?_ (by decide)
              rw [len3]
              have h1 : ("Greater(" : Str).length = 8 := by decide
              have h2 : (")" : Str).length = 1 := by decide
              omega
end
end K13
namespace K13
open PySem PySem.Spec PyProof.Rows L2 LG Evl
section
variable {P : Program} {w : World} {K : PySem.W.Frag} {mg : Str → Option Value} {base : Heap} {a : At}
theorem ev_joinL {te : TE} {σ : L2.St} {H : Hp} {K : PySem.W.Frag} {p : Addr} {sep : Str} {ys : List Str} (h : Ev te σ H (.ref p)) (hp : H p = some (.lst (ys.map V.str))) (hz : (ys.map (·.length)).sum + ys.length * sep.length ≤ 16777216) :
    Ev (tM1 (fun x xs H Q => ∃ a p, ∃ ys : List Str, x = .str a ∧ xs = [.ref p] ∧ (SqL K H p (ys.map V.str) ∨ SqT K H p (ys.map V.str)) ∧ (ys.map (·.length)).sum + ys.length * a.length ≤ 16777216 ∧ Q (.str (Txt.join a ys)) H) (tC (.str sep)) te) σ H (.str (TM.joinS sep ys)) := by
  intro H1 e Q q
  refine ⟨⟨sep, rfl⟩, h H1 e _ fun H2 e2 => ⟨sep, p, ys, rfl, rfl, .inl (sq_of (e2 _ _ (e _ _ hp))), hz, ?_⟩⟩
  have z : ∀ ys : List Str, Str.join sep ys = TM.joinS sep ys := by
    intro ys
    induction ys with
    | nil => rfl
    | cons x r ih =>
      cases r with
      | nil => rfl
      | cons y r =>
        show x ++ sep ++ Str.join sep (y :: r) = x ++ sep ++ TM.joinS sep (y :: r)
        rw [ih]
  rw [TL.join_eq, z]
  exact q H2 e2
/-- what a term's text wants to be made -/
inductive TextOk : TM.Tree → Prop
  | place {n : Str} (h : n.length ≤ 1000) : TextOk (.place n)
  | endd {e : Str} (h : e.length ≤ 1000) : TextOk (.endd e)
  | lesser {ts : List TM.Tree} (h1 : ts.length ≤ 1000) (h2 : ((TM.Tree.innerAll ts).map (·.length)).sum + ts.length * 3 ≤ 1000000) (hr : ∀ t ∈ ts, TextOk t) : TextOk (.lesser ts)
  | greater {ts : List TM.Tree} (h1 : ts.length ≤ 1000) (h2 : ((TM.Tree.innerAll ts).map (·.length)).sum + ts.length * 3 ≤ 1000000) (hr : ∀ t ∈ ts, TextOk t) : TextOk (.greater ts)
theorem innerAll_len : ∀ {ts : List TM.Tree}, (TM.Tree.innerAll ts).length = ts.length
  | [] => rfl
  | t :: ts => by rw [TM.Tree.innerAll, List.length_cons, List.length_cons, innerAll_len]
theorem innerAll_at : ∀ {ts : List TM.Tree} {i : Nat} {t : TM.Tree}, ts[i]? = some t → (TM.Tree.innerAll ts)[i]? = some (if t.depth > 0 then "(" ++ t.text ++ ")" else t.text)
  | t :: ts, 0, u, h => by
    simp at h
    subst h
    simp [TM.Tree.innerAll]
  | t :: ts, i + 1, u, h => by
    simp at h
    simp [TM.Tree.innerAll]
    exact innerAll_at h
theorem TextOk.len {t : TM.Tree} (h : TextOk t) : t.text.length ≤ 1000000 := by
  cases h with
  | place h => rw [TM.Tree.text]; omega
  | endd h => rw [TM.Tree.text]; omega
  | @lesser ts h1 h2 _ =>
    rw [TM.Tree.text]
    have hj := joinS_len " & " (TM.Tree.innerAll ts)
    have hc : (" & " : Str).length = 3 := by decide
    rw [hc, innerAll_len] at hj
    omega
  | @greater ts h1 h2 _ =>
    rw [TM.Tree.text]
    have hj := joinS_len " | " (TM.Tree.innerAll ts)
    have hc : (" | " : Str).length = 3 := by decide
    rw [hc, innerAll_len] at hj
    omega
/-- a term of depth below n -/
def sp_term_text (a : At) (n : Nat) : Sp := fun vs H Q _ => ∃ v t, vs = [v] ∧ TM.TmAt (csOf a) H v t ∧ TextOk t ∧ t.depth < n ∧ ∀ H', Ex H H' → Q (.str t.text) H'
theorem ok_term_text (T : Txt K mg a) : ∀ n, ∃ fd, FnOk P w K mg base CX0 (n + 2) a.term_text fd ["term"] (sp_term_text a n) ∧ Binds K fd ["term"] [] := by
  intro n
  induction n with
  | zero =>
    obtain ⟨fd, F⟩ := T.d_term_text.F
    refine ⟨fd, F.ok sc_term_text (fun vs H Q E h => ?_) (fun cdv A outer s H vs Q E hr h => ?_), F.binds fun _ _ _ _ _ _ us hl => match us, hl with | [_], _ => rfl⟩
    · obtain ⟨_, _, rfl, _⟩ := h
      rfl
    · obtain ⟨_, t, _, _, _, hd, _⟩ := h
      exact absurd hd (Nat.not_lt_zero _)
  | succ n ih =>
    obtain ⟨fd1, F1, b1⟩ := ih
    obtain ⟨fd, F⟩ := T.d_term_text.F
    refine ⟨fd, F.ok sc_term_text (fun vs H Q E h => ?_) (fun cdv A outer s H vs Q E hr h => ?_), F.binds fun _ _ _ _ _ _ us hl => match us, hl with | [_], _ => rfl⟩
    · obtain ⟨_, _, rfl, _⟩ := h
      rfl
    · obtain ⟨v, t, rfl, ht, ok, hd, q⟩ := h
      have nd := sc_term_text.nd
      have hr2 := hr.mono (j := 2) (by omega)
      refine ⟨_, (pss_cons (ps_if (pt_val (pe_callB call_isi (by rfl) T.z_isinstance (by decide +kernel) (pa_cons (pv 0) (pa_cons (pe_glob (v := .ref a.k_Place) (by rfl) T.g_Place.m rfl) pa_nil)))) (pss_one (ps_ret (pe_getA (G := gNm a) (CX := CX0) (pv 0) (g_nm T) hr2 pass0 rfl))) pss_nil)
        (pss_cons (ps_if (pt_val (pe_callB call_isi (by rfl) T.z_isinstance (by decide +kernel) (pa_cons (pv 0) (pa_cons (pe_glob (v := .ref a.k_End) (by rfl) T.g_End.m rfl) pa_nil)))) (pss_one (ps_ret (pe_getA (G := gEnd a) (CX := CX0) (pv 0) (g_end T) hr2 pass0 rfl))) pss_nil)
        (pss_cons (ps_setLc (i := 1) (own := [("part", 2)]) (g := gName 2) rfl (by exact nd) rfl rfl (by rfl) (pi_tup (pe_getA (G := gParts a) (CX := CX0) (pv 0) (g_parts T) hr2 pass0 rfl)) (blkOk_by (own := [("part", 2)]) (N := ["term", "texts", "part"]) (sc := defScope s_term_text) (by decide +kernel)) (fun _ _ _ _ _ => pg_name (i := 2) nd rfl (.inl rfl)) (fun _ _ _ _ _ => pts_nil)
          (fun _ _ _ _ _ => pe_ifExp (pt_cmpR op_gt (pe_getA (G := gDepth a) (CX := CX0) (pv 2) (g_depth T) hr2 pass0 rfl) pe_int (nomark _)) (pe_joined (.cons pe_str (.cons (pe_fmt (pe_call F1 hr (by rfl) T.d_term_text.m T.d_term_text.kp b1 .nil pass0 (pa_cons (pv 2) pa_nil))) (.cons pe_str .nil)))) (pe_call F1 hr (by rfl) T.d_term_text.m T.d_term_text.kp b1 .nil pass0 (pa_cons (pv 2) pa_nil))))
        (pss_one (ps_ret (pe_ifExp (pt_val (pe_callB call_isi (by rfl) T.z_isinstance (by decide +kernel) (pa_cons (pv 0) (pa_cons (pe_glob (v := .ref a.k_Lesser) (by rfl) T.g_Lesser.m rfl) pa_nil)))) (pe_join pe_str (pv 1)) (pe_join pe_str (pv 1)))))))), ?_⟩
      cases ht with
      | @place x dx nm hx =>
        cases ok with
        | place hz =>
          refine s_if (b := true) (et_isT (ev_var rfl) (fun H1 e => ty_ins T T.g_Place (e _ _ hx)) (kit_of T.g_Place T.x_Place_Place T.x_Place_Place)) (fun _ H1 e1 => ?_) (fun z => nomatch z)
          refine s_ret (v := .str nm) (ev_getA (ev_var rfl) (e1 _ _ hx) ⟨rfl, rfl⟩ rfl) fun H2 e2 => ?_
          have := q H2 (e1.trans e2)
          rwa [TM.Tree.text] at this
      | @endd x dx nm hx =>
        cases ok with
        | endd hz =>
          refine s_if (b := false) (et_isT (ev_var rfl) (fun H1 e => ty_ins T T.g_End (e _ _ hx)) (kit_of T.g_Place T.x_End_Place T.x_Place_Place)) (fun z => nomatch z) (fun _ H1 e1 => ?_)
          refine s_if (b := true) (et_isT (ev_var rfl) (fun H2 e => ty_ins T T.g_End ((e1.trans e) _ _ hx)) (kit_of T.g_End T.x_End_End T.x_End_End)) (fun _ H2 e2 => ?_) (fun z => nomatch z)
          refine s_ret (v := .str nm) (ev_getA (ev_var rfl) ((e1.trans e2) _ _ hx) ⟨rfl, rfl⟩ rfl) fun H3 e3 => ?_
          have := q H3 ((e1.trans e2).trans e3)
          rwa [TM.Tree.text] at this
      | @lesser x dx p xs ts hx hp hl hxs =>
        cases ok with
        | lesser hz1 hz2 hok =>
          refine s_if (b := false) (et_isT (ev_var rfl) (fun H1 e => ty_ins T T.g_Lesser (e _ _ hx)) (kit_of T.g_Place T.x_Lesser_Place T.x_Place_Place)) (fun z => nomatch z) (fun _ H1 e1 => ?_)
          refine s_if (b := false) (et_isT (ev_var rfl) (fun H2 e => ty_ins T T.g_Lesser ((e1.trans e) _ _ hx)) (kit_of T.g_End T.x_Lesser_End T.x_End_End)) (fun z => nomatch z) (fun _ H2 e2 => ?_)
          have e02 := e1.trans e2
          have hn : TM.Tree.depthAll ts < n := Nat.lt_of_succ_lt_succ (by simpa [TM.Tree.depth] using hd)
          have hc : (" & " : Str).length = 3 := by decide
          have L : EvL (tLc (iTup K (tGetA (gParts a) (tVar 0))) (gName 2) tYes (tIf (tTest (tOp (rI0 fun i j => V.bl (decide (j < i))) (tGetA (gDepth a) (tVar 2)) (tC (V.int 0)))) (fun σ H Q => tJs [tC (V.str "("), tFmt (tCall (sp_term_text a n) [] E0 (tCons (tVar 2) tNil)), tC (V.str ")")] Str.empty σ H fun out H1 => Q (V.str out) H1) (tCall (sp_term_text a n) [] E0 (tCons (tVar 2) tNil))) [2]) [some (.ref x), none, none] H2 ((TM.Tree.innerAll ts).map V.str) := by
            refine el_tmap (ev_getA (ev_var rfl) (e02 _ _ hx) ⟨.inl rfl, rfl⟩ rfl) (st_of (e02 _ _ hp)) (by omega) (by rw [List.length_map, innerAll_len]; exact hl) (fun x => rfl) (fun i y z H3 e3 hi hz => ?_)
            rw [List.getElem?_map] at hz
            obtain ⟨u, hu, rfl⟩ := Option.map_eq_some_iff.mp hz
            have hi2 : i < ts.length := hl ▸ (List.getElem?_eq_some_iff.mp hi).1
            have ht : ts[i]? = some ts[i] := List.getElem?_eq_getElem hi2
            have hu2 := innerAll_at ht
            rw [hu] at hu2
            cases hu2
            have hy := fun {H4 : Hp} (e4 : Ex H3 H4) => (hxs i y _ hi ht).up ((e02.trans e3).trans e4)
            have okt := hok _ (List.getElem_mem hi2)
            have hcall : ∀ {H4 : Hp}, Ex H3 H4 → Ev (tCall (sp_term_text a n) [] E0 (tCons (tVar 2) tNil)) ((wipe [some (V.ref x), none, none] [2]).set 2 (some y)) H4 (.str (ts[i]).text) := fun {H4} e4 =>
              ev_call (ea_cons (ev_var rfl) ea_nil) fun H5 e5 Q q E => ⟨y, ts[i], rfl, hy (e4.trans e5), okt, Nat.lt_of_le_of_lt (TM.depth_mem (List.getElem_mem hi2)) hn, fun H6 e6 => q H6 e6⟩
            obtain ⟨bb, C, dxx, fs, rfl, hb, g, hv⟩ := tm_depth (hy (Ex.refl H3))
            have hl3 := okt.len
            by_cases hp0 : (ts[i]).depth > 0
            · rw [if_pos hp0]
              refine ev_if (b := true) (et_test (ev_is (ev_op (ev_getA (ev_var rfl) hb g hv) ev_c rv_I0) (by simp; omega))) (fun _ => ?_) (fun z => nomatch z)
              refine ev_joined3 (ev_fmt (hcall (Ex.refl H3)) (Nat.le_trans hl3 (by decide))) rfl (by decide) ?_ ?_
              · refine Nat.le_trans (m := 1000020) ?_ (by decide)
                rw [PySem.Str.length_append]
                have : ("(" : Str).length = 1 := by decide
                omega
              · refine Nat.le_trans (m := 1000020) ?_ (by decide)
                rw [len3]
                have h1 : ("(" : Str).length = 1 := by decide
                have h2 : (")" : Str).length = 1 := by decide
                omega
            · rw [if_neg hp0]
              exact ev_if (b := false) (et_test (ev_is (ev_op (ev_getA (ev_var rfl) hb g hv) ev_c rv_I0) (by simp; omega))) (fun z => nomatch z) (fun _ => hcall (Ex.refl H3))
          refine s_asgL L fun pn H3 hpn0 e3 hpn => ?_
          · dsimp only
            refine s_ret (v := .str (TM.joinS " & " (TM.Tree.innerAll ts))) (ev_if (b := true) (et_isB (ev_var rfl) (fun H4 e => ty_ins T T.g_Lesser ((e02.trans (e3.trans e)) _ _ hx)) (kit_of T.g_Lesser T.x_Lesser_Lesser T.x_Lesser_Lesser)) (fun z => ?_) (fun z => ?_)) fun H4 e4 => ?_
            · exact ev_joinL (ev_var rfl) hpn (by rw [hc, innerAll_len]; omega)
            · cases z
            · have := q H4 (e02.trans (e3.trans e4))
              rwa [TM.Tree.text] at this
      | @greater x dx p xs ts hx hp hl hxs =>
        cases ok with
        | greater hz1 hz2 hok =>
          refine s_if (b := false) (et_isT (ev_var rfl) (fun H1 e => ty_ins T T.g_Greater (e _ _ hx)) (kit_of T.g_Place T.x_Greater_Place T.x_Place_Place)) (fun z => nomatch z) (fun _ H1 e1 => ?_)
          refine s_if (b := false) (et_isT (ev_var rfl) (fun H2 e => ty_ins T T.g_Greater ((e1.trans e) _ _ hx)) (kit_of T.g_End T.x_Greater_End T.x_End_End)) (fun z => nomatch z) (fun _ H2 e2 => ?_)
          have e02 := e1.trans e2
          have hn : TM.Tree.depthAll ts < n := Nat.lt_of_succ_lt_succ (by simpa [TM.Tree.depth] using hd)
          have hc : (" | " : Str).length = 3 := by decide
          have L : EvL (tLc (iTup K (tGetA (gParts a) (tVar 0))) (gName 2) tYes (tIf (tTest (tOp (rI0 fun i j => V.bl (decide (j < i))) (tGetA (gDepth a) (tVar 2)) (tC (V.int 0)))) (fun σ H Q => tJs [tC (V.str "("), tFmt (tCall (sp_term_text a n) [] E0 (tCons (tVar 2) tNil)), tC (V.str ")")] Str.empty σ H fun out H1 => Q (V.str out) H1) (tCall (sp_term_text a n) [] E0 (tCons (tVar 2) tNil))) [2]) [some (.ref x), none, none] H2 ((TM.Tree.innerAll ts).map V.str) := by
            refine el_tmap (ev_getA (ev_var rfl) (e02 _ _ hx) ⟨.inr rfl, rfl⟩ rfl) (st_of (e02 _ _ hp)) (by omega) (by rw [List.length_map, innerAll_len]; exact hl) (fun x => rfl) (fun i y z H3 e3 hi hz => ?_)
            rw [List.getElem?_map] at hz
            obtain ⟨u, hu, rfl⟩ := Option.map_eq_some_iff.mp hz
            have hi2 : i < ts.length := hl ▸ (List.getElem?_eq_some_iff.mp hi).1
            have ht : ts[i]? = some ts[i] := List.getElem?_eq_getElem hi2
            have hu2 := innerAll_at ht
            rw [hu] at hu2
            cases hu2
            have hy := fun {H4 : Hp} (e4 : Ex H3 H4) => (hxs i y _ hi ht).up ((e02.trans e3).trans e4)
            have okt := hok _ (List.getElem_mem hi2)
            have hcall : ∀ {H4 : Hp}, Ex H3 H4 → Ev (tCall (sp_term_text a n) [] E0 (tCons (tVar 2) tNil)) ((wipe [some (V.ref x), none, none] [2]).set 2 (some y)) H4 (.str (ts[i]).text) := fun {H4} e4 =>
              ev_call (ea_cons (ev_var rfl) ea_nil) fun H5 e5 Q q E => ⟨y, ts[i], rfl, hy (e4.trans e5), okt, Nat.lt_of_le_of_lt (TM.depth_mem (List.getElem_mem hi2)) hn, fun H6 e6 => q H6 e6⟩
            obtain ⟨bb, C, dxx, fs, rfl, hb, g, hv⟩ := tm_depth (hy (Ex.refl H3))
            have hl3 := okt.len
            by_cases hp0 : (ts[i]).depth > 0
            · rw [if_pos hp0]
              refine ev_if (b := true) (et_test (ev_is (ev_op (ev_getA (ev_var rfl) hb g hv) ev_c rv_I0) (by simp; omega))) (fun _ => ?_) (fun z => nomatch z)
              refine ev_joined3 (ev_fmt (hcall (Ex.refl H3)) (Nat.le_trans hl3 (by decide))) rfl (by decide) ?_ ?_
              · refine Nat.le_trans (m := 1000020) ?_ (by decide)
                rw [PySem.Str.length_append]
                have : ("(" : Str).length = 1 := by decide
                omega
              · refine Nat.le_trans (m := 1000020) ?_ (by decide)
                rw [len3]
                have h1 : ("(" : Str).length = 1 := by decide
                have h2 : (")" : Str).length = 1 := by decide
                omega
            · rw [if_neg hp0]
              exact ev_if (b := false) (et_test (ev_is (ev_op (ev_getA (ev_var rfl) hb g hv) ev_c rv_I0) (by simp; omega))) (fun z => nomatch z) (fun _ => hcall (Ex.refl H3))
          refine s_asgL L fun pn H3 hpn0 e3 hpn => ?_
          · dsimp only
            refine s_ret (v := .str (TM.joinS " | " (TM.Tree.innerAll ts))) (ev_if (b := false) (et_isB (ev_var rfl) (fun H4 e => ty_ins T T.g_Greater ((e02.trans (e3.trans e)) _ _ hx)) (kit_of T.g_Lesser T.x_Greater_Lesser T.x_Lesser_Lesser)) (fun z => ?_) (fun z => ?_)) fun H4 e4 => ?_
            · cases z
            · exact ev_joinL (ev_var rfl) hpn (by rw [hc, innerAll_len]; omega)
            · have := q H4 (e02.trans (e3.trans e4))
              rwa [TM.Tree.text] at this
end
end K13
namespace K13
open PySem PySem.Spec PyProof.Rows L2 LG Evl
section
variable {P : Program} {w : World} {K : PySem.W.Frag} {mg : Str → Option Value} {base : Heap} {a : At}
/-! ### __str__, __repr__, __eq__ of a term -/
theorem fn_Term_str (T : Txt K mg a) (n : Nat) : Fn P w K mg base (n + 3) a.m_Term_str (sp_term_text a n) := by
  obtain ⟨fd1, F1, b1⟩ := ok_term_text (P := P) (w := w) (mg := mg) (base := base) T n
  obtain ⟨fd, F⟩ := T.m_Term_str.F
  refine Fn.of F sc_Term_str (F.binds fun _ _ _ _ _ _ us hl => match us, hl with | [_], _ => rfl) (fun vs H Q E h => ?_) (fun cdv A outer s H vs Q E hg hr hcd h => ?_)
  · obtain ⟨_, _, rfl, _⟩ := h
    rfl
  · obtain ⟨v, t, rfl, ht, ok, hd, q⟩ := h
    refine ⟨_, pss_one (ps_ret (pe_callTy SkE.call_str_str (by rfl) T.z_str (by decide +kernel) (pa_cons (pe_call F1 hr (by rfl) T.d_term_text.m T.d_term_text.kp b1 .nil pass0 (pa_cons (pv 0) pa_nil)) pa_nil))), ?_⟩
    exact ⟨v, rfl, v, t, rfl, ht, ok, hd, fun H' e => ⟨_, rfl, q H' e⟩⟩
theorem fn_Term_repr (T : Txt K mg a) (n : Nat) : Fn P w K mg base (n + 3) a.m_Term_repr (sp_term_repr a n) := by
  obtain ⟨fd1, F1, b1⟩ := ok_term_repr (P := P) (w := w) (mg := mg) (base := base) T n
  obtain ⟨fd, F⟩ := T.m_Term_repr.F
  refine Fn.of F sc_Term_repr (F.binds fun _ _ _ _ _ _ us hl => match us, hl with | [_], _ => rfl) (fun vs H Q E h => ?_) (fun cdv A outer s H vs Q E hg hr hcd h => ?_)
  · obtain ⟨_, _, rfl, _⟩ := h
    rfl
  · obtain ⟨v, t, rfl, ht, ok, hd, q⟩ := h
    refine ⟨_, pss_one (ps_ret (pe_callTy SkE.call_str_str (by rfl) T.z_str (by decide +kernel) (pa_cons (pe_call F1 hr (by rfl) T.d_term_repr.m T.d_term_repr.kp b1 .nil pass0 (pa_cons (pv 0) pa_nil)) pa_nil))), ?_⟩
    exact ⟨v, rfl, v, t, rfl, ht, ok, hd, fun H' e => ⟨_, rfl, q H' e⟩⟩
end
end K13
namespace K13
open PySem PySem.Spec PyProof.Rows L2 LG Evl
section
variable {P : Program} {w : World} {K : PySem.W.Frag} {mg : Str → Option Value} {base : Heap} {a : At}
/-- self is a term; other is a term, or of a kind that is none -/
def sp_Term_eq (K : PySem.W.Frag) (a : At) (n : Nat) : Sp := fun vs H Q _ => ∃ v u t, vs = [v, u] ∧ TM.TmAt (csOf a) H v t ∧ RepOk t ∧ t.depth < n ∧
  ((∃ t2, TM.TmAt (csOf a) H u t2 ∧ RepOk t2 ∧ t2.depth < n ∧ ∀ H', Ex H H' → Q (.bl (decide (t.repr = t2.repr))) H') ∨
   (∃ C, (∀ H', Ex H H' → TyX K H' u C) ∧ PySem.W.kitOne K C (.ref a.k_Term) = some false ∧ ∀ H', Ex H H' → Q (.bl false) H'))
theorem fn_Term_eq (T : Txt K mg a) (n : Nat) : Fn P w K mg base (n + 3) a.m_Term_eq (sp_Term_eq K a n) := by
  obtain ⟨fd1, F1, b1⟩ := ok_term_repr (P := P) (w := w) (mg := mg) (base := base) T n
  obtain ⟨fd, F⟩ := T.m_Term_eq.F
  refine Fn.of F sc_Term_eq (F.binds fun _ _ _ _ _ _ us hl => match us, hl with | [_, _], _ => rfl) (fun vs H Q E h => ?_) (fun cdv A outer s H vs Q E hg hr hcd h => ?_)
  · obtain ⟨_, _, _, rfl, _⟩ := h
    rfl
  · obtain ⟨v, u, t, rfl, ht, ok, hd, q⟩ := h
    refine ⟨_, pss_one (ps_ret (pe_and (pe_callB call_isi (by rfl) T.z_isinstance (by decide +kernel) (pa_cons (pv 1) (pa_cons (pe_glob (v := .ref a.k_Term) (by rfl) T.g_Term.m rfl) pa_nil))) (pe_one (pe_cmpR op_eq (pe_call F1 hr (by rfl) T.d_term_repr.m T.d_term_repr.kp b1 .nil pass0 (pa_cons (pv 0) pa_nil)) (pe_call F1 hr (by rfl) T.d_term_repr.m T.d_term_repr.kp b1 .nil pass0 (pa_cons (pv 1) pa_nil)) (nomark _))))), ?_⟩
    rcases q with ⟨t2, ht2, ok2, hd2, q⟩ | ⟨C, ty, hk, q⟩
    · obtain ⟨C, ty, hk⟩ := tm_ty T ht2
      refine s_ret (v := .bl (decide (t.repr = t2.repr))) (ev_is (ev_andV (a := true) (b := decide (t.repr = t2.repr)) (ev_cb (ea_cons (ev_var rfl) (ea_cons ev_c ea_nil)) fun H1 e Q q => ?_) fun _ => ?_) (by rw [Bool.true_and])) fun H1 e1 => q H1 e1
      · obtain ⟨C1, ty1, hk1⟩ := tm_ty T (ht2.up e)
        exact ⟨u, .ref a.k_Term, _, _, true, rfl, .own _, ty1, hk1, q H1 (Ex.refl H1)⟩
      · refine ev_is (ev_op (x := .str t.repr) (y := .str t2.repr) (ev_call (ea_cons (ev_var rfl) ea_nil) fun H1 e Q q E => ⟨v, t, rfl, ht.up e, ok, hd, fun H2 e2 => q H2 e2⟩) (ev_call (ea_cons (ev_var rfl) ea_nil) fun H1 e Q q E => ⟨u, t2, rfl, ht2.up e, ok2, hd2, fun H2 e2 => q H2 e2⟩) (rv_eq rfl)) ?_
        simp
    · exact s_ret (v := .bl false) (ev_is (ev_andV (a := false) (b := false) (ev_cb (ea_cons (ev_var rfl) (ea_cons ev_c ea_nil)) fun H1 e Q q => ⟨u, .ref a.k_Term, _, _, false, rfl, .own _, ty H1 e, hk, q H1 (Ex.refl H1)⟩) (fun z => nomatch z)) rfl) fun H1 e1 => q H1 e1
end
end K13
/-! The law's own trees (nested tuples and lists); trees that are well made; equal texts only of equal trees. -/
namespace TM
open PySem PySem.Spec PyProof.Rows L2 LG Evl
/-- the law's own tree; all of it stands at places in S -/
inductive MdAt (S : Addr → Prop) (H : Hp) : V → Tree → Prop
  | place {a : Addr} {n : Str} (s : S a) (h : H a = some (.tup [.str "place", .str n])) : MdAt S H (.ref a) (.place n)
  | endd {a : Addr} {e : Str} (s : S a) (h : H a = some (.tup [.str "end", .str e])) : MdAt S H (.ref a) (.endd e)
  | lesser {a l : Addr} {xs : List V} {ts : List Tree} (s : S a) (h : H a = some (.tup [.str "lesser", .ref l])) (sl : S l) (hl : H l = some (.lst xs)) (hn : xs.length = ts.length) (hx : ∀ (i : Nat) (x : V) (t : Tree), xs[i]? = some x → ts[i]? = some t → MdAt S H x t) : MdAt S H (.ref a) (.lesser ts)
  | greater {a l : Addr} {xs : List V} {ts : List Tree} (s : S a) (h : H a = some (.tup [.str "greater", .ref l])) (sl : S l) (hl : H l = some (.lst xs)) (hn : xs.length = ts.length) (hx : ∀ (i : Nat) (x : V) (t : Tree), xs[i]? = some x → ts[i]? = some t → MdAt S H x t) : MdAt S H (.ref a) (.greater ts)
theorem MdAt.up {S S' : Addr → Prop} {H H' : Hp} {v : V} {t : Tree} (hS : ∀ b, S b → S' b) (e : ∀ b o, S b → H b = some o → H' b = some o) (h : MdAt S H v t) : MdAt S' H' v t := by
  induction h with
  | place s h => exact .place (hS _ s) (e _ _ s h)
  | endd s h => exact .endd (hS _ s) (e _ _ s h)
  | lesser s h sl hl hn _ ih => exact .lesser (hS _ s) (e _ _ s h) (hS _ sl) (e _ _ sl hl) hn ih
  | greater s h sl hl hn _ ih => exact .greater (hS _ s) (e _ _ s h) (hS _ sl) (e _ _ sl hl) hn ih
theorem MdAt.ex {S : Addr → Prop} {H H' : Hp} {v : V} {t : Tree} (e : Ex H H') (h : MdAt S H v t) : MdAt S H' v t := h.up (fun _ s => s) fun b o _ z => e b o z
/-! ### as data -/
mutual
def mdl : Tree → PyData
  | .place n => .tuple [.str "place", .str n]
  | .endd e => .tuple [.str "end", .str e]
  | .lesser ts => .tuple [.str "lesser", .list (mdls ts)]
  | .greater ts => .tuple [.str "greater", .list (mdls ts)]
def mdls : List Tree → List PyData
  | [] => []
  | t :: ts => mdl t :: mdls ts
end
mutual
theorem mdl_plain : ∀ t : Tree, (mdl t).plain = true
  | .place n => by simp [mdl, PyData.plain, PyData.plainAll]
  | .endd e => by simp [mdl, PyData.plain, PyData.plainAll]
  | .lesser ts => by simp [mdl, PyData.plain, PyData.plainAll, mdls_plain ts]
  | .greater ts => by simp [mdl, PyData.plain, PyData.plainAll, mdls_plain ts]
theorem mdls_plain : ∀ ts : List Tree, PyData.plainAll (mdls ts) = true
  | [] => rfl
  | t :: ts => by simp [mdls, PyData.plainAll, mdl_plain t, mdls_plain ts]
end
mutual
theorem mdl_depth : ∀ t : Tree, (mdl t).depth ≤ 2 * t.depth + 1
  | .place n => by simp [mdl, PyData.depth, PyData.depthAll]
  | .endd e => by simp [mdl, PyData.depth, PyData.depthAll]
  | .lesser ts => by
    have h := mdls_depth ts
    simp only [mdl, PyData.depth, PyData.depthAll, Tree.depth]
    omega
  | .greater ts => by
    have h := mdls_depth ts
    simp only [mdl, PyData.depth, PyData.depthAll, Tree.depth]
    omega
theorem mdls_depth : ∀ ts : List Tree, PyData.depthAll (mdls ts) ≤ 2 * Tree.depthAll ts + 1
  | [] => by simp [mdls, PyData.depthAll]
  | t :: ts => by
    have h1 := mdl_depth t
    have h2 := mdls_depth ts
    simp only [mdls, PyData.depthAll, Tree.depthAll]
    omega
end
mutual
theorem eqv_mdl : ∀ t u : Tree, PyData.eqv (mdl t) (mdl u) = true → t = u
  | .place n, .place m, h => by
    simp [mdl, PyData.eqv, PyData.eqvAll] at h
    rw [h]
  | .endd n, .endd m, h => by
    simp [mdl, PyData.eqv, PyData.eqvAll] at h
    rw [h]
  | .lesser ts, .lesser us, h => by
    simp [mdl, PyData.eqv, PyData.eqvAll] at h
    rw [eqv_mdls ts us h]
  | .greater ts, .greater us, h => by
    simp [mdl, PyData.eqv, PyData.eqvAll] at h
    rw [eqv_mdls ts us h]
  | .place _, .endd _, h => by simp [mdl, PyData.eqv, PyData.eqvAll, (by decide : ¬ ("place" : Str) = "end")] at h
  | .place _, .lesser _, h => by simp [mdl, PyData.eqv, PyData.eqvAll] at h
  | .place _, .greater _, h => by simp [mdl, PyData.eqv, PyData.eqvAll] at h
  | .endd _, .place _, h => by simp [mdl, PyData.eqv, PyData.eqvAll, (by decide : ¬ ("end" : Str) = "place")] at h
  | .endd _, .lesser _, h => by simp [mdl, PyData.eqv, PyData.eqvAll] at h
  | .endd _, .greater _, h => by simp [mdl, PyData.eqv, PyData.eqvAll] at h
  | .lesser _, .place _, h => by simp [mdl, PyData.eqv, PyData.eqvAll] at h
  | .lesser _, .endd _, h => by simp [mdl, PyData.eqv, PyData.eqvAll] at h
  | .lesser _, .greater _, h => by simp [mdl, PyData.eqv, PyData.eqvAll, (by decide : ¬ ("lesser" : Str) = "greater")] at h
  | .greater _, .place _, h => by simp [mdl, PyData.eqv, PyData.eqvAll] at h
  | .greater _, .endd _, h => by simp [mdl, PyData.eqv, PyData.eqvAll] at h
  | .greater _, .lesser _, h => by simp [mdl, PyData.eqv, PyData.eqvAll, (by decide : ¬ ("greater" : Str) = "lesser")] at h
theorem eqv_mdls : ∀ ts us : List Tree, PyData.eqvAll (mdls ts) (mdls us) = true → ts = us
  | [], [], _ => rfl
  | [], _ :: _, h => by simp [mdls, PyData.eqvAll] at h
  | _ :: _, [], h => by simp [mdls, PyData.eqvAll] at h
  | t :: ts, u :: us, h => by
    rw [mdls, mdls, PyData.eqvAll, Bool.and_eq_true] at h
    rw [eqv_mdl t u h.1, eqv_mdls ts us h.2]
end
theorem eqv_mdl_iff (t u : Tree) : PyData.eqv (mdl t) (mdl u) = true ↔ t = u := ⟨eqv_mdl t u, fun h => h ▸ SeqAt.eqv_refl_plain _ (mdl_plain t)⟩
theorem dp_mdls {K : PySem.W.Frag} {H : Hp} : ∀ {xs : List V} {ts : List Tree}, xs.length = ts.length → (∀ (i : Nat) (x : V) (t : Tree), xs[i]? = some x → ts[i]? = some t → Dp K H x (mdl t)) → DpAll K H xs (mdls ts)
  | [], [], _, _ => .nil
  | [], _ :: _, h, _ => by cases h
  | _ :: _, [], h, _ => by cases h
  | x :: xs, t :: ts, h, k => .cons (k 0 x t rfl rfl) (dp_mdls (Nat.succ.inj h) fun i y u a b => k (i + 1) y u a b)
theorem MdAt.dp {S : Addr → Prop} {K : PySem.W.Frag} {H : Hp} {v : V} {t : Tree} (h : MdAt S H v t) : Dp K H v (mdl t) := by
  induction h with
  | place s h => exact .tup (st_of h) (.cons (.str _) (.cons (.str _) .nil))
  | endd s h => exact .tup (st_of h) (.cons (.str _) (.cons (.str _) .nil))
  | lesser s h sl hl hn _ ih => exact .tup (st_of h) (.cons (.str _) (.cons (.lst (sq_of hl) (dp_mdls hn ih)) .nil))
  | greater s h sl hl hn _ ih => exact .tup (st_of h) (.cons (.str _) (.cons (.lst (sq_of hl) (dp_mdls hn ih)) .nil))
/-! ### well made -/
def names : List Str := ["r0", "r1", "r2", "r3", "r4", "r5", "x0", "x1"]
def Ln (n : Nat) : Prop := n = 2 ∨ n = 3 ∨ n = 4 ∨ n = 8
theorem Ln.two {n : Nat} (h : Ln n) : 2 ≤ n := by rcases h with rfl | rfl | rfl | rfl <;> decide
theorem Ln.eight {n : Nat} (h : Ln n) : n ≤ 8 := by rcases h with rfl | rfl | rfl | rfl <;> decide
inductive Ok : Tree → Prop
  | place {n : Str} (h : n ∈ names) : Ok (.place n)
  | endd {e : Str} (h : e ∈ (["bottom", "top"] : List Str)) : Ok (.endd e)
  | lesser {ts : List Tree} (hl : Ln ts.length) (h : ∀ t ∈ ts, Ok t) : Ok (.lesser ts)
  | greater {ts : List Tree} (hl : Ln ts.length) (h : ∀ t ∈ ts, Ok t) : Ok (.greater ts)
/-! ### equal representations only of equal trees -/
def cs (x : Str) : List Nat := x.cps.toList
theorem cs_app (x y : Str) : cs (x ++ y) = cs x ++ cs y := by simp [cs, PySem.Str.cps_append]
theorem cs_inj {x y : Str} (h : cs x = cs y) : x = y := PySem.Str.ext' (Array.toList_inj.mp h)
theorem len_cs (x : Str) : (cs x).length = x.length := by simp [cs, PySem.Str.length]
end TM
/-! Equal representations only of equal trees; how long texts are. -/
namespace TM
open PySem PySem.Spec PyProof.Rows L2 LG Evl
theorem cs_place : ∀ n ∈ names, cs (Tree.repr (.place n)) = 80 :: 108 :: 97 :: 99 :: 101 :: 40 :: 39 :: (cs n ++ [39, 41]) ∧ (cs n).length = 2 := by decide +kernel
theorem cs_bottom : cs (Tree.repr (.endd "bottom")) = [69, 110, 100, 40, 39, 98, 111, 116, 116, 111, 109, 39, 41] := by decide +kernel
theorem cs_top : cs (Tree.repr (.endd "top")) = [69, 110, 100, 40, 39, 116, 111, 112, 39, 41] := by decide +kernel
theorem cs_lesser (ts : List Tree) : cs (Tree.repr (.lesser ts)) = 76 :: 101 :: 115 :: 115 :: 101 :: 114 :: 40 :: (cs (joinS ", " (Tree.reprAll ts)) ++ [41]) := by
  rw [Tree.repr, cs_app, cs_app, (by decide : cs "Lesser(" = [76, 101, 115, 115, 101, 114, 40]), (by decide : cs ")" = [41])]
  rfl
theorem cs_greater (ts : List Tree) : cs (Tree.repr (.greater ts)) = 71 :: 114 :: 101 :: 97 :: 116 :: 101 :: 114 :: 40 :: (cs (joinS ", " (Tree.reprAll ts)) ++ [41]) := by
  rw [Tree.repr, cs_app, cs_app, (by decide : cs "Greater(" = [71, 114, 101, 97, 116, 101, 114, 40]), (by decide : cs ")" = [41])]
  rfl
theorem cs_endd {e : Str} (h : e ∈ (["bottom", "top"] : List Str)) : e = "bottom" ∨ e = "top" := by
  rcases List.mem_cons.mp h with h | h
  · exact .inl h
  · exact .inr (List.mem_singleton.mp h)
/-- the head tells the kind -/
def hd (t : Tree) : Nat := match t with
  | .place _ => 80
  | .endd _ => 69
  | .lesser _ => 76
  | .greater _ => 71
theorem cs_hd {t : Tree} (h : Ok t) : ∃ l, cs t.repr = hd t :: l := by
  cases h with
  | place h => exact ⟨_, (cs_place _ h).1⟩
  | endd h =>
    rcases cs_endd h with rfl | rfl
    · exact ⟨_, cs_bottom⟩
    · exact ⟨_, cs_top⟩
  | lesser _ _ => exact ⟨_, cs_lesser _⟩
  | greater _ _ => exact ⟨_, cs_greater _⟩
theorem hd_eq {t u : Tree} (ht : Ok t) (hu : Ok u) {r s : List Nat} (h : cs t.repr ++ r = cs u.repr ++ s) : hd t = hd u := by
  obtain ⟨l, e⟩ := cs_hd ht
  obtain ⟨l2, e2⟩ := cs_hd hu
  rw [e, e2, List.cons_append, List.cons_append] at h
  exact (List.cons.inj h).1
theorem joinS_two (t u : Tree) (ts : List Tree) : cs (joinS ", " (Tree.reprAll (t :: u :: ts))) = cs t.repr ++ 44 :: 32 :: cs (joinS ", " (Tree.reprAll (u :: ts))) := by
  rw [Tree.reprAll, Tree.reprAll, joinS, cs_app, cs_app, (by decide : cs ", " = [44, 32]), List.append_assoc]
  rfl
theorem joinS_one (t : Tree) : cs (joinS ", " (Tree.reprAll [t])) = cs t.repr := rfl
mutual
theorem pf : ∀ t u : Tree, Ok t → Ok u → ∀ r s : List Nat, cs t.repr ++ r = cs u.repr ++ s → t = u ∧ r = s
  | .place n, .place m, ht, hu, r, s, h => by
    cases ht with
    | place hn =>
      cases hu with
      | place hm =>
        obtain ⟨e1, l1⟩ := cs_place n hn
        obtain ⟨e2, l2⟩ := cs_place m hm
        rw [e1, e2] at h
        simp only [List.cons_append, List.append_assoc, List.cons.injEq, true_and] at h
        obtain ⟨a, b⟩ := List.append_inj h (by rw [l1, l2])
        simp only [List.cons_append, List.cons.injEq, true_and, List.nil_append] at b
        exact ⟨by rw [cs_inj a], b⟩
  | .endd n, .endd m, ht, hu, r, s, h => by
    cases ht with
    | endd hn =>
      cases hu with
      | endd hm =>
        rcases cs_endd hn with rfl | rfl <;> rcases cs_endd hm with rfl | rfl
        · exact ⟨rfl, List.append_cancel_left h⟩
        · rw [cs_bottom, cs_top] at h
          simp at h
        · rw [cs_bottom, cs_top] at h
          simp at h
        · exact ⟨rfl, List.append_cancel_left h⟩
  | .lesser ts, .lesser us, ht, hu, r, s, h => by
    cases ht with
    | lesser hl ha =>
      cases hu with
      | lesser kl ka =>
        have h2 := hl.two
        have k2 := kl.two
        rw [cs_lesser, cs_lesser] at h
        simp only [List.cons_append, List.append_assoc, List.cons.injEq, true_and, List.nil_append] at h
        obtain ⟨a, b⟩ := pfs ts us (by omega) (by omega) ha ka r s h
        exact ⟨by rw [a], b⟩
  | .greater ts, .greater us, ht, hu, r, s, h => by
    cases ht with
    | greater hl ha =>
      cases hu with
      | greater kl ka =>
        have h2 := hl.two
        have k2 := kl.two
        rw [cs_greater, cs_greater] at h
        simp only [List.cons_append, List.append_assoc, List.cons.injEq, true_and, List.nil_append] at h
        obtain ⟨a, b⟩ := pfs ts us (by omega) (by omega) ha ka r s h
        exact ⟨by rw [a], b⟩
  | .place _, .endd _, ht, hu, _, _, h => absurd (hd_eq ht hu h) (by simp [hd])
  | .place _, .lesser _, ht, hu, _, _, h => absurd (hd_eq ht hu h) (by simp [hd])
  | .place _, .greater _, ht, hu, _, _, h => absurd (hd_eq ht hu h) (by simp [hd])
  | .endd _, .place _, ht, hu, _, _, h => absurd (hd_eq ht hu h) (by simp [hd])
  | .endd _, .lesser _, ht, hu, _, _, h => absurd (hd_eq ht hu h) (by simp [hd])
  | .endd _, .greater _, ht, hu, _, _, h => absurd (hd_eq ht hu h) (by simp [hd])
  | .lesser _, .place _, ht, hu, _, _, h => absurd (hd_eq ht hu h) (by simp [hd])
  | .lesser _, .endd _, ht, hu, _, _, h => absurd (hd_eq ht hu h) (by simp [hd])
  | .lesser _, .greater _, ht, hu, _, _, h => absurd (hd_eq ht hu h) (by simp [hd])
  | .greater _, .place _, ht, hu, _, _, h => absurd (hd_eq ht hu h) (by simp [hd])
  | .greater _, .endd _, ht, hu, _, _, h => absurd (hd_eq ht hu h) (by simp [hd])
  | .greater _, .lesser _, ht, hu, _, _, h => absurd (hd_eq ht hu h) (by simp [hd])
theorem pfs : ∀ ts us : List Tree, 0 < ts.length → 0 < us.length → (∀ t ∈ ts, Ok t) → (∀ u ∈ us, Ok u) → ∀ r s : List Nat, cs (joinS ", " (Tree.reprAll ts)) ++ 41 :: r = cs (joinS ", " (Tree.reprAll us)) ++ 41 :: s → ts = us ∧ r = s
  | [], _, h, _, _, _, _, _, _ => absurd h (Nat.lt_irrefl _)
  | _ :: _, [], _, h, _, _, _, _, _ => absurd h (Nat.lt_irrefl _)
  | [t], [u], _, _, ht, hu, r, s, h => by
    rw [joinS_one, joinS_one] at h
    obtain ⟨a, b⟩ := pf t u (ht t List.mem_cons_self) (hu u List.mem_cons_self) _ _ h
    exact ⟨by rw [a], (List.cons.inj b).2⟩
  | [t], u :: u2 :: us, _, _, ht, hu, r, s, h => by
    rw [joinS_one, joinS_two, List.append_assoc] at h
    obtain ⟨_, b⟩ := pf t u (ht t List.mem_cons_self) (hu u List.mem_cons_self) _ _ h
    simp at b
  | t :: t2 :: ts, [u], _, _, ht, hu, r, s, h => by
    rw [joinS_one, joinS_two, List.append_assoc] at h
    obtain ⟨_, b⟩ := pf t u (ht t List.mem_cons_self) (hu u List.mem_cons_self) _ _ h
    simp at b
  | t :: t2 :: ts, u :: u2 :: us, _, _, ht, hu, r, s, h => by
    rw [joinS_two, joinS_two, List.append_assoc, List.append_assoc] at h
    obtain ⟨a, b⟩ := pf t u (ht t List.mem_cons_self) (hu u List.mem_cons_self) _ _ h
    simp only [List.cons_append, List.cons.injEq, true_and] at b
    obtain ⟨c, d⟩ := pfs (t2 :: ts) (u2 :: us) (by simp) (by simp) (fun x hx => ht x (List.mem_cons_of_mem _ hx)) (fun x hx => hu x (List.mem_cons_of_mem _ hx)) r s b
    exact ⟨by rw [a, c], d⟩
end
theorem repr_inj {t u : Tree} (ht : Ok t) (hu : Ok u) (h : t.repr = u.repr) : t = u := (pf t u ht hu [] [] (by rw [h])).1
theorem repr_iff {t u : Tree} (ht : Ok t) (hu : Ok u) : decide (t.repr = u.repr) = PyData.eqv (mdl t) (mdl u) := by
  rw [Bool.eq_iff_iff, decide_eq_true_iff, eqv_mdl_iff]
  exact ⟨repr_inj ht hu, fun h => by rw [h]⟩
theorem eqv_symm (t u : Tree) : PyData.eqv (mdl t) (mdl u) = PyData.eqv (mdl u) (mdl t) := by
  rw [Bool.eq_iff_iff, eqv_mdl_iff, eqv_mdl_iff]
  exact eq_comm
/-! ### how long -/
theorem sum_le {xs : List Str} {M : Nat} (h : ∀ x ∈ xs, x.length ≤ M) : (xs.map (·.length)).sum ≤ xs.length * M := by
  induction xs with
  | nil => simp
  | cons x xs ih =>
    have h1 := h x List.mem_cons_self
    have h2 := ih fun y hy => h y (List.mem_cons_of_mem _ hy)
    rw [List.map_cons, List.sum_cons, List.length_cons, Nat.succ_mul]
    omega
theorem reprAll_mem : ∀ {ts : List Tree} {x : Str}, x ∈ Tree.reprAll ts → ∃ t ∈ ts, x = t.repr
  | [], _, h => by simp [Tree.reprAll] at h
  | t :: ts, x, h => by
    rw [Tree.reprAll] at h
    rcases List.mem_cons.mp h with rfl | h
    · exact ⟨t, List.mem_cons_self, rfl⟩
    · obtain ⟨u, hu, e⟩ := reprAll_mem h
      exact ⟨u, List.mem_cons_of_mem _ hu, e⟩
theorem innerAll_mem : ∀ {ts : List Tree} {x : Str}, x ∈ Tree.innerAll ts → ∃ t ∈ ts, x.length ≤ t.text.length + 2
  | [], _, h => by simp [Tree.innerAll] at h
  | t :: ts, x, h => by
    rw [Tree.innerAll] at h
    rcases List.mem_cons.mp h with rfl | h
    · refine ⟨t, List.mem_cons_self, ?_⟩
      split
      · rw [K13.len3]
        have h1 : ("(" : Str).length = 1 := by decide
        have h2 : (")" : Str).length = 1 := by decide
        omega
      · omega
    · obtain ⟨u, hu, e⟩ := innerAll_mem h
      exact ⟨u, List.mem_cons_of_mem _ hu, e⟩
theorem leaf_len {t : Tree} (h : Ok t) (hd : t.depth = 0) : t.repr.length ≤ 13 ∧ t.text.length ≤ 6 := by
  cases h with
  | place h => exact (by decide +kernel : ∀ n ∈ names, (Tree.repr (.place n)).length ≤ 13 ∧ (Tree.text (.place n)).length ≤ 6) _ h
  | endd h => exact (by decide +kernel : ∀ e ∈ (["bottom", "top"] : List Str), (Tree.repr (.endd e)).length ≤ 13 ∧ (Tree.text (.endd e)).length ≤ 6) _ h
  | lesser _ _ => simp [Tree.depth] at hd
  | greater _ _ => simp [Tree.depth] at hd
theorem mul_le {n : Nat} (h : n ≤ 8) (M : Nat) : n * M ≤ 8 * M := Nat.mul_le_mul_right M h
theorem sums {ts : List Tree} {M N : Nat} (h8 : ts.length ≤ 8) (h : ∀ t ∈ ts, t.repr.length ≤ M ∧ t.text.length ≤ N) : ((Tree.reprAll ts).map (·.length)).sum ≤ 8 * M ∧ ((Tree.innerAll ts).map (·.length)).sum ≤ 8 * (N + 2) := by
  constructor
  · refine Nat.le_trans (sum_le (M := M) fun x hx => ?_) (by rw [K13.reprAll_len]; exact mul_le h8 M)
    obtain ⟨t, ht, rfl⟩ := reprAll_mem hx
    exact (h t ht).1
  · refine Nat.le_trans (sum_le (M := N + 2) fun x hx => ?_) (by rw [K13.innerAll_len]; exact mul_le h8 (N + 2))
    obtain ⟨t, ht, e⟩ := innerAll_mem hx
    have := (h t ht).2
    omega
theorem joins {ts : List Tree} {M N : Nat} (h8 : ts.length ≤ 8) (h : ∀ t ∈ ts, t.repr.length ≤ M ∧ t.text.length ≤ N) : (joinS ", " (Tree.reprAll ts)).length ≤ 8 * M + 16 ∧ (joinS " & " (Tree.innerAll ts)).length ≤ 8 * N + 40 ∧ (joinS " | " (Tree.innerAll ts)).length ≤ 8 * N + 40 := by
  obtain ⟨s1, s2⟩ := sums h8 h
  have j1 := K13.joinS_len ", " (Tree.reprAll ts)
  have j2 := K13.joinS_len " & " (Tree.innerAll ts)
  have j3 := K13.joinS_len " | " (Tree.innerAll ts)
  rw [(by decide : (", " : Str).length = 2), K13.reprAll_len] at j1
  rw [(by decide : (" & " : Str).length = 3), K13.innerAll_len] at j2
  rw [(by decide : (" | " : Str).length = 3), K13.innerAll_len] at j3
  omega
theorem len_le : ∀ (d : Nat) {t : Tree}, Ok t → t.depth ≤ d → t.repr.length + 4 ≤ 17 * 8 ^ d ∧ t.text.length + 6 ≤ 12 * 8 ^ d := by
  intro d
  induction d with
  | zero =>
    intro t h hd
    have := leaf_len h (Nat.le_zero.mp hd)
    omega
  | succ d ih =>
    intro t h hd
    have p8 : 1 ≤ 8 ^ d := Nat.pos_of_ne_zero (by simp)
    have ps : 8 ^ (d + 1) = 8 * 8 ^ d := by rw [Nat.pow_succ, Nat.mul_comm]
    rw [ps]
    have sub : ∀ ts : List Tree, (∀ t ∈ ts, Ok t) → Tree.depthAll ts ≤ d → ∀ t ∈ ts, t.repr.length ≤ 17 * 8 ^ d - 4 ∧ t.text.length ≤ 12 * 8 ^ d - 6 := fun ts ho hd t ht => by
      have := ih (ho t ht) (Nat.le_trans (depth_mem ht) hd)
      omega
    cases h with
    | place h =>
      have := leaf_len (.place h) rfl
      omega
    | endd h =>
      have := leaf_len (.endd h) rfl
      omega
    | lesser hl ho =>
      have h2 := hl.two
      have h8 := hl.eight
      obtain ⟨j1, j2, j3⟩ := joins h8 (sub _ ho (by simpa [Tree.depth] using hd))
      rw [Tree.repr, Tree.text, K13.len3, (by decide : ("Lesser(" : Str).length = 7), (by decide : (")" : Str).length = 1)]
      omega
    | greater hl ho =>
      have h2 := hl.two
      have h8 := hl.eight
      obtain ⟨j1, j2, j3⟩ := joins h8 (sub _ ho (by simpa [Tree.depth] using hd))
      rw [Tree.repr, Tree.text, K13.len3, (by decide : ("Greater(" : Str).length = 8), (by decide : (")" : Str).length = 1)]
      omega
end TM
namespace K13
open PySem PySem.Spec PyProof.Rows L2 LG Evl TM
theorem ok_both : ∀ (d : Nat) {t : TM.Tree}, Ok t → t.depth ≤ d → d ≤ 5 → RepOk t ∧ TextOk t := by
  intro d
  induction d with
  | zero =>
    intro t h hd _
    cases h with
    | place h =>
      have h1 : ∀ n ∈ names, (reprText n).length ≤ 1000 ∧ n.length ≤ 1000 := by decide +kernel
      exact ⟨.place (h1 _ h).1, .place (h1 _ h).2⟩
    | endd h =>
      have h1 : ∀ n ∈ (["bottom", "top"] : List Str), (reprText n).length ≤ 1000 ∧ n.length ≤ 1000 := by decide +kernel
      exact ⟨.endd (h1 _ h).1, .endd (h1 _ h).2⟩
    | lesser _ _ => simp [TM.Tree.depth] at hd
    | greater _ _ => simp [TM.Tree.depth] at hd
  | succ d ih =>
    intro t h hd h5
    have p : 8 ^ d ≤ 8 ^ 4 := Nat.pow_le_pow_right (by decide) (by omega)
    have sub : ∀ ts : List TM.Tree, (∀ t ∈ ts, Ok t) → TM.Tree.depthAll ts ≤ d → ∀ t ∈ ts, t.repr.length ≤ 69628 ∧ t.text.length ≤ 49146 := fun ts ho hd t ht => by
      have := len_le d (ho t ht) (Nat.le_trans (depth_mem ht) hd)
      omega
    cases h with
    | place h =>
      have h1 : ∀ n ∈ names, (reprText n).length ≤ 1000 ∧ n.length ≤ 1000 := by decide +kernel
      exact ⟨.place (h1 _ h).1, .place (h1 _ h).2⟩
    | endd h =>
      have h1 : ∀ n ∈ (["bottom", "top"] : List Str), (reprText n).length ≤ 1000 ∧ n.length ≤ 1000 := by decide +kernel
      exact ⟨.endd (h1 _ h).1, .endd (h1 _ h).2⟩
    | lesser hl ho =>
      have h2 := hl.two
      have h8 := hl.eight
      have hd2 : ∀ ts, TM.Tree.depth (.lesser ts) ≤ d + 1 → TM.Tree.depthAll ts ≤ d := fun ts h => by simpa [TM.Tree.depth] using h
      obtain ⟨s1, s2⟩ := sums h8 (sub _ ho (hd2 _ hd))
      exact ⟨.lesser (by omega) (by omega) fun t ht => (ih (ho t ht) (Nat.le_trans (depth_mem ht) (hd2 _ hd)) (by omega)).1, .lesser (by omega) (by omega) fun t ht => (ih (ho t ht) (Nat.le_trans (depth_mem ht) (hd2 _ hd)) (by omega)).2⟩
    | greater hl ho =>
      have h2 := hl.two
      have h8 := hl.eight
      have hd2 : ∀ ts, TM.Tree.depth (.greater ts) ≤ d + 1 → TM.Tree.depthAll ts ≤ d := fun ts h => by simpa [TM.Tree.depth] using h
      obtain ⟨s1, s2⟩ := sums h8 (sub _ ho (hd2 _ hd))
      exact ⟨.greater (by omega) (by omega) fun t ht => (ih (ho t ht) (Nat.le_trans (depth_mem ht) (hd2 _ hd)) (by omega)).1, .greater (by omega) (by omega) fun t ht => (ih (ho t ht) (Nat.le_trans (depth_mem ht) (hd2 _ hd)) (by omega)).2⟩
theorem rep_ok {t : TM.Tree} (h : Ok t) (hd : t.depth ≤ 5) : RepOk t := (ok_both 5 h hd (Nat.le_refl _)).1
theorem text_ok {t : TM.Tree} (h : Ok t) (hd : t.depth ≤ 5) : TextOk t := (ok_both 5 h hd (Nat.le_refl _)).2
end K13
namespace K13
open PySem PySem.Spec PyProof.Rows L2 LG Evl
/-! ### terms made -/
section
variable {P : Program} {w : World} {K : PySem.W.Frag} {mg : Str → Option Value} {base : Heap} {a : At}
abbrev spStar (a : At) (C : Addr) : Sp := fun vs H Q E => ∃ v ws, vs = v :: ws ∧ ws.length ≤ sizeLine ∧ ∀ p, H p = none → sp_two_init a C [v, V.ref p] (upd H p (.tup ws)) Q E
theorem ex_made {H : Hp} {x dx C : Addr} (hx : H x = none) (hd : H dx = none) (ne : dx ≠ x) : Ex H (upd (upd H dx (.own x)) x (.ins C dx [])) :=
  (Ex.new hd).trans (Ex.new (by rw [upd_ne (Ne.symm ne)]; exact hx))
theorem two_made {C : Addr} {H : Hp} {xs : List V} {ts : List TM.Tree} {Q : VK} {E : XK} (hl : xs.length = ts.length) (h2 : 2 ≤ xs.length) (h8 : xs.length ≤ 1000) (ht : ∀ (i : Nat) (y : V) (t : TM.Tree), xs[i]? = some y → ts[i]? = some t → TM.TmAt (csOf a) H y t)
    (q : ∀ x dx p H', Ex H H' → H x = none → H' x = some (.ins C dx [("own_depth", .int ((TM.Tree.depthAll ts + 1 : Nat) : Int)), ("own_parts", .ref p)]) → H' p = some (.tup xs) → Q (.ref x) H') :
    ∀ x dx, H x = none → H dx = none → dx ≠ x → spStar a C (V.ref x :: xs) (upd (upd H dx (.own x)) x (.ins C dx [])) (fun v H2 => v = .non ∧ Q (.ref x) H2) E := by
  intro x dx hx hd ne
  have e1 := ex_made (C := C) hx hd ne
  refine ⟨.ref x, xs, rfl, sz_of (by omega), fun p hp => ?_⟩
  have nx : x ≠ p := fun z => by
    rw [← z, upd_same] at hp
    cases hp
  refine ⟨x, dx, p, xs, ts, rfl, (upd_ne nx).trans upd_same, upd_same, hl, h2, h8, fun i y t hy ht2 => (ht i y t hy ht2).up (e1.trans (Ex.new hp)), fun H' e' => ⟨rfl, ?_⟩⟩
  have e2 : Ex H H' := (e1.trans (Ex.new hp)).trans e'
  exact q x dx p _ (Ex.mut e2 hx) hx upd_same (by rw [upd_ne (Ne.symm nx)]; exact e' _ _ upd_same)
theorem lesser_made {H : Hp} {xs : List V} {ts : List TM.Tree} {Q : VK} {E : XK} (hl : xs.length = ts.length) (h2 : 2 ≤ xs.length) (h8 : xs.length ≤ 1000) (ht : ∀ (i : Nat) (y : V) (t : TM.Tree), xs[i]? = some y → ts[i]? = some t → TM.TmAt (csOf a) H y t)
    (q : ∀ v H', Ex H H' → TM.TmAt (csOf a) H' v (.lesser ts) → Q v H') :
    ∀ x dx, H x = none → H dx = none → dx ≠ x → spStar a a.k_Lesser (V.ref x :: xs) (upd (upd H dx (.own x)) x (.ins a.k_Lesser dx [])) (fun v H2 => v = .non ∧ Q (.ref x) H2) E :=
  two_made hl h2 h8 ht fun x dx p H' e hx h1 h2 => q _ _ e (.lesser (by rw [TM.Tree.depth]; exact h1) h2 hl fun i y t a b => (ht i y t a b).up e)
theorem greater_made {H : Hp} {xs : List V} {ts : List TM.Tree} {Q : VK} {E : XK} (hl : xs.length = ts.length) (h2 : 2 ≤ xs.length) (h8 : xs.length ≤ 1000) (ht : ∀ (i : Nat) (y : V) (t : TM.Tree), xs[i]? = some y → ts[i]? = some t → TM.TmAt (csOf a) H y t)
    (q : ∀ v H', Ex H H' → TM.TmAt (csOf a) H' v (.greater ts) → Q v H') :
    ∀ x dx, H x = none → H dx = none → dx ≠ x → spStar a a.k_Greater (V.ref x :: xs) (upd (upd H dx (.own x)) x (.ins a.k_Greater dx [])) (fun v H2 => v = .non ∧ Q (.ref x) H2) E :=
  two_made hl h2 h8 ht fun x dx p H' e hx h1 h2 => q _ _ e (.greater (by rw [TM.Tree.depth]; exact h1) h2 hl fun i y t a b => (ht i y t a b).up e)
/-- what is asked of the text beyond the facts: where a def's code lies -/
structure Files (P : Program) (K : PySem.W.Frag) (a : At) : Prop where
  place : ∀ (vs : Array Value) (cl : Value) (cd : Option Addr) (sl : Array (Option Value)) (tx : Str) (tf : Tok), K.lookup a.o_Place_init = some ⟨cl, cd, .fields vs, sl⟩ → vs[2]? = some (.str tx tf) → ((P.main.file : Str) == tx) = true
  endd : ∀ (vs : Array Value) (cl : Value) (cd : Option Addr) (sl : Array (Option Value)) (tx : Str) (tf : Tok), K.lookup a.o_End_init = some ⟨cl, cd, .fields vs, sl⟩ → vs[2]? = some (.str tx tf) → ((P.main.file : Str) == tx) = true
  lesser : ∀ (vs : Array Value) (cl : Value) (cd : Option Addr) (sl : Array (Option Value)) (tx : Str) (tf : Tok), K.lookup a.o_Lesser_init = some ⟨cl, cd, .fields vs, sl⟩ → vs[2]? = some (.str tx tf) → ((P.main.file : Str) == tx) = true
  greater : ∀ (vs : Array Value) (cl : Value) (cd : Option Addr) (sl : Array (Option Value)) (tx : Str) (tf : Tok), K.lookup a.o_Greater_init = some ⟨cl, cd, .fields vs, sl⟩ → vs[2]? = some (.str tx tf) → ((P.main.file : Str) == tx) = true
  top : (P.main.scope.names.lookup ("super" : Str)).isSome = false
  nk_place : noKinds K a.k_Place = true
  nk_end : noKinds K a.k_End = true
  nk_lesser : noKinds K a.k_Lesser = true
  nk_greater : noKinds K a.k_Greater = true
/-! ### self & other, self | other -/
def sp_Term_and (a : At) : Sp := fun vs H Q _ => ∃ v u t t2, vs = [v, u] ∧ TM.TmAt (csOf a) H v t ∧ TM.TmAt (csOf a) H u t2 ∧ ∀ x H', Ex H H' → TM.TmAt (csOf a) H' x (.lesser [t, t2]) → Q x H'
def sp_Term_or (a : At) : Sp := fun vs H Q _ => ∃ v u t t2, vs = [v, u] ∧ TM.TmAt (csOf a) H v t ∧ TM.TmAt (csOf a) H u t2 ∧ ∀ x H', Ex H H' → TM.TmAt (csOf a) H' x (.greater [t, t2]) → Q x H'
theorem two_at {H : Hp} {v u : V} {t t2 : TM.Tree} (h1 : TM.TmAt (csOf a) H v t) (h2 : TM.TmAt (csOf a) H u t2) : ∀ (i : Nat) (y : V) (z : TM.Tree), [v, u][i]? = some y → [t, t2][i]? = some z → TM.TmAt (csOf a) H y z
  | 0, _, _, a, b => by
    cases a
    cases b
    exact h1
  | 1, _, _, a, b => by
    cases a
    cases b
    exact h2
  | i + 2, _, _, a, _ => by simp at a
theorem fn_Term_and (T : Txt K mg a) (F : Files P K a) : Fn P w K mg base 7 a.m_Term_and (sp_Term_and a) := by
  obtain ⟨fd1, F1, b1⟩ := ok_want_term (P := P) (w := w) (mg := mg) (base := base) T
  have F2 := ok_Lesser_init (P := P) (w := w) (mg := mg) (base := base) T F.lesser F.top
  obtain ⟨fd, Fd⟩ := T.m_Term_and.F
  refine Fn.of Fd sc_Term_and (Fd.binds fun _ _ _ _ _ _ us hl => match us, hl with | [_, _], _ => rfl) (fun vs H Q E h => ?_) (fun cdv A outer s H vs Q E hg hr hcd h => ?_)
  · obtain ⟨_, _, _, _, rfl, _⟩ := h
    rfl
  · obtain ⟨v, u, t, t2, rfl, h1, h2, q⟩ := h
    refine ⟨_, pss_cons (ps_expr (pe_call F1 (hr.mono (by decide)) (by rfl) T.d_want_term.m T.d_want_term.kp b1 .nil pass0 (pa_cons (pv 1) pa_nil))) (pss_one (ps_ret (StX.pe_makeR T.mk_Lesser F2 hr (by rfl) T.g_Lesser.m passL (pa_cons (pv 0) (pa_cons (pv 1) pa_nil))))), ?_⟩
    exact ⟨u, rfl, u, t2, rfl, h2, v, rfl, u, rfl, lesser_made rfl (by simp) (by simp) (two_at h1 h2) q⟩
theorem fn_Term_or (T : Txt K mg a) (F : Files P K a) : Fn P w K mg base 7 a.m_Term_or (sp_Term_or a) := by
  obtain ⟨fd1, F1, b1⟩ := ok_want_term (P := P) (w := w) (mg := mg) (base := base) T
  have F2 := ok_Greater_init (P := P) (w := w) (mg := mg) (base := base) T F.greater F.top
  obtain ⟨fd, Fd⟩ := T.m_Term_or.F
  refine Fn.of Fd sc_Term_or (Fd.binds fun _ _ _ _ _ _ us hl => match us, hl with | [_, _], _ => rfl) (fun vs H Q E h => ?_) (fun cdv A outer s H vs Q E hg hr hcd h => ?_)
  · obtain ⟨_, _, _, _, rfl, _⟩ := h
    rfl
  · obtain ⟨v, u, t, t2, rfl, h1, h2, q⟩ := h
    refine ⟨_, pss_cons (ps_expr (pe_call F1 (hr.mono (by decide)) (by rfl) T.d_want_term.m T.d_want_term.kp b1 .nil pass0 (pa_cons (pv 1) pa_nil))) (pss_one (ps_ret (StX.pe_makeR T.mk_Greater F2 hr (by rfl) T.g_Greater.m passL (pa_cons (pv 0) (pa_cons (pv 1) pa_nil))))), ?_⟩
    exact ⟨u, rfl, u, t2, rfl, h2, v, rfl, u, rfl, greater_made rfl (by simp) (by simp) (two_at h1 h2) q⟩
end
end K13
namespace K13
open PySem PySem.Spec PyProof.Rows L2 LG Evl
/-! ### str, repr, ==, !=, &, | of terms -/
def IsT (a : At) (C : Addr) : Prop := C = a.k_Place ∨ C = a.k_End ∨ C = a.k_Lesser ∨ C = a.k_Greater
structure ClsT (K : PySem.W.Frag) (a : At) (C : Addr) : Prop where
  str : PySem.W.findIn K (.ref C) "__str__" = some (some (.ref a.m_Term_str))
  repr : PySem.W.findIn K (.ref C) "__repr__" = some (some (.ref a.m_Term_repr))
  eq : PySem.W.findIn K (.ref C) "__eq__" = some (some (.ref a.m_Term_eq))
  ne : PySem.W.findIn K (.ref C) "__ne__" = some (some (.builtin "object.__ne__"))
  obj : PySem.W.mroIn K C (.type "object") = some true
  nk : noKinds K C = true
  and_ : BinC K C a.m_Term_and "and"
  or_ : BinC K C a.m_Term_or "or"
  kit : PySem.W.kitOne K (.ref C) (.ref a.k_Term) = some true
section
variable {P : Program} {w : World} {K : PySem.W.Frag} {mg : Str → Option Value} {base : Heap} {a : At}
theorem kit_term {C : Addr} (T : Txt K mg a) (h : PySem.W.subIn K (.ref C) (.ref a.k_Term) = some true) : PySem.W.kitOne K (.ref C) (.ref a.k_Term) = some true := kit_of T.g_Term h T.x_Term_Term
theorem cls_of {C : Addr} (T : Txt K mg a) (F : Files P K a) (h : IsT a C) : ClsT K a C := by
  rcases h with rfl | rfl | rfl | rfl
  · exact ⟨T.f_Place_str, T.f_Place_repr, T.f_Place_eq, T.g_Place.ne, T.g_Place.hm, F.nk_place, ⟨T.first_Place, T.f_Place_and, T.rand_Place⟩, ⟨T.first_Place, T.f_Place_or, T.ror_Place⟩, kit_term T T.x_Place_Term⟩
  · exact ⟨T.f_End_str, T.f_End_repr, T.f_End_eq, T.g_End.ne, T.g_End.hm, F.nk_end, ⟨T.first_End, T.f_End_and, T.rand_End⟩, ⟨T.first_End, T.f_End_or, T.ror_End⟩, kit_term T T.x_End_Term⟩
  · exact ⟨T.f_Lesser_str, T.f_Lesser_repr, T.f_Lesser_eq, T.g_Lesser.ne, T.g_Lesser.hm, F.nk_lesser, ⟨T.first_Lesser, T.f_Lesser_and, T.rand_Lesser⟩, ⟨T.first_Lesser, T.f_Lesser_or, T.ror_Lesser⟩, kit_term T T.x_Lesser_Term⟩
  · exact ⟨T.f_Greater_str, T.f_Greater_repr, T.f_Greater_eq, T.g_Greater.ne, T.g_Greater.hm, F.nk_greater, ⟨T.first_Greater, T.f_Greater_and, T.rand_Greater⟩, ⟨T.first_Greater, T.f_Greater_or, T.ror_Greater⟩, kit_term T T.x_Greater_Term⟩
theorem cls_apart {C D : Addr} (T : Txt K mg a) (h : IsT a C) (h2 : IsT a D) : C = D ∨ PySem.W.subIn K (.ref D) (.ref C) = some false := by
  rcases h with rfl | rfl | rfl | rfl <;> rcases h2 with rfl | rfl | rfl | rfl
  · exact .inl rfl
  · exact .inr T.x_End_Place
  · exact .inr T.x_Lesser_Place
  · exact .inr T.x_Greater_Place
  · exact .inr T.x_Place_End
  · exact .inl rfl
  · exact .inr T.x_Lesser_End
  · exact .inr T.x_Greater_End
  · exact .inr T.x_Place_Lesser
  · exact .inr T.x_End_Lesser
  · exact .inl rfl
  · exact .inr T.x_Greater_Lesser
  · exact .inr T.x_Place_Greater
  · exact .inr T.x_End_Greater
  · exact .inr T.x_Lesser_Greater
  · exact .inl rfl
theorem tm_at {H : Hp} {v : V} {t : TM.Tree} (T : Txt K mg a) (h : TM.TmAt (csOf a) H v t) : ∃ x C dx fs, v = .ref x ∧ H x = some (.ins C dx fs) ∧ IsT a C ∧ TyX K H v (.ref C) := by
  cases h with
  | place h => exact ⟨_, _, _, _, rfl, h, .inl rfl, ty_ins T T.g_Place h⟩
  | endd h => exact ⟨_, _, _, _, rfl, h, .inr (.inl rfl), ty_ins T T.g_End h⟩
  | lesser h _ _ _ => exact ⟨_, _, _, _, rfl, h, .inr (.inr (.inl rfl)), ty_ins T T.g_Lesser h⟩
  | greater h _ _ _ => exact ⟨_, _, _, _, rfl, h, .inr (.inr (.inr rfl)), ty_ins T T.g_Greater h⟩
theorem tm_ref {H : Hp} {v : V} {t : TM.Tree} (h : TM.TmAt (csOf a) H v t) : ∃ c, v = .ref c := by cases h <;> exact ⟨_, rfl⟩
theorem kd_up {H H' : Hp} {v : V} {t : String} (e : Ex H H') (h : Kd H v t) : Kd H' v t := by
  cases h with
  | non => exact .non
  | int i => exact .int i
  | str x => exact .str x
  | lst h => exact .lst (e _ _ h)
  | tup h => exact .tup (e _ _ h)
  | dic h => exact .dic (e _ _ h)
theorem kd_not {H : Hp} {v : V} {t : String} {D : Addr} {nm : Str} (g : GCl K mg nm D) (h : Kd H v t) : PySem.W.kitOne K (.type t) (.ref D) = some false := by
  have s : PySem.W.subIn K (.type t) (.ref D) = some false := by cases h <;> rfl
  obtain ⟨cd, hc⟩ := Option.ne_none_iff_exists'.mp g.ki.1
  unfold PySem.W.kitOne
  rw [if_neg (by simp)]
  show (if ((PySem.W.clsIn K D).isSome && PySem.W.typeIn K (.ref D) == some (.type "type")) = true then PySem.W.subIn K (.type t) (.ref D) else none) = some false
  rw [if_pos (by rw [hc, g.ki.2]; rfl)]
  exact s
theorem kd_first {H : Hp} {v : V} {t : String} {C : Addr} (h : Kd H v t) : PySem.W.notFirst K C (.type t) = true := by
  have s : PySem.W.subIn K (.type t) (.ref C) = some false := by cases h <;> rfl
  unfold PySem.W.notFirst
  rw [s]
  simp
theorem is_first {C D : Addr} (T : Txt K mg a) (h : IsT a C) (h2 : IsT a D) : PySem.W.notFirst K C (.ref D) = true := by
  unfold PySem.W.notFirst
  rcases cls_apart T h h2 with rfl | z
  · simp
  · rw [z]
    simp
end
def rStrT (a : At) : List V → Hp → VK → Prop := fun xs H Q => ∃ v t, xs = [v] ∧ TM.TmAt (csOf a) H v t ∧ TM.Ok t ∧ t.depth ≤ 5 ∧ ∀ H', Ex H H' → Q (.str t.text) H'
def rReprT (a : At) : List V → Hp → VK → Prop := fun xs H Q => ∃ v t, xs = [v] ∧ TM.TmAt (csOf a) H v t ∧ TM.Ok t ∧ t.depth ≤ 5 ∧ ∀ H', Ex H H' → Q (.str t.repr) H'
/-- y is a term, or of a kind that is none -/
def Side (a : At) (H : Hp) (t : TM.Tree) (y : V) (Q : Bool → Hp → Prop) : Prop := (∃ t2, TM.TmAt (csOf a) H y t2 ∧ TM.Ok t2 ∧ t2.depth ≤ 5 ∧ ∀ H', Ex H H' → Q (decide (t.repr = t2.repr)) H') ∨ (∃ k, Kd H y k ∧ ∀ H', Ex H H' → Q false H')
def rEqT (a : At) : R2 := fun x y H Q => ∃ t, TM.TmAt (csOf a) H x t ∧ TM.Ok t ∧ t.depth ≤ 5 ∧ Side a H t y fun b H' => Q (.bl b) H'
def rNeT (a : At) : R2 := fun x y H Q => ∃ t, TM.TmAt (csOf a) H x t ∧ TM.Ok t ∧ t.depth ≤ 5 ∧ Side a H t y fun b H' => Q (.bl (!b)) H'
def rEqR (a : At) : R2 := fun x y H Q => ∃ t k, TM.TmAt (csOf a) H y t ∧ TM.Ok t ∧ t.depth ≤ 5 ∧ Kd H x k ∧ ∀ H', Ex H H' → Q (.bl false) H'
def rAndT (a : At) : R2 := fun x y H Q => ∃ t t2, TM.TmAt (csOf a) H x t ∧ TM.TmAt (csOf a) H y t2 ∧ ∀ v H', Ex H H' → TM.TmAt (csOf a) H' v (.lesser [t, t2]) → Q v H'
def rOrT (a : At) : R2 := fun x y H Q => ∃ t t2, TM.TmAt (csOf a) H x t ∧ TM.TmAt (csOf a) H y t2 ∧ ∀ v H', Ex H H' → TM.TmAt (csOf a) H' v (.greater [t, t2]) → Q v H'
section
variable {X : Cx} {a : At} {E : XK}
theorem call_str_tm (T : Txt X.K X.mg a) (F : Files X.prog X.K a) (g0 : X.A.guards = some []) (hr : Room 11 X.A) (hx : Passes (L2.CX X.prog X.w) X E) : CallR X (.type "str") (rStrT a) := by
  intro pins s σ H xs us Q I r h
  obtain ⟨v, t, rfl, ht, ok, hd, q⟩ := h
  obtain ⟨x, C, dx, fs, rfl, hH, hc, _⟩ := tm_at T ht
  exact call_strOwn (cls_of T F hc).str T.m_Term_str.fn (fn_Term_str T 6) g0 hr hx pins s σ H [.ref x] us Q I r ⟨x, dx, fs, rfl, hH, .ref x, t, rfl, ht, text_ok ok hd, by omega, fun H' e => ⟨_, rfl, q H' e⟩⟩
theorem call_repr_tm (T : Txt X.K X.mg a) (F : Files X.prog X.K a) (g0 : X.A.guards = some []) (hr : Room 10 X.A) (hx : Passes (L2.CX X.prog X.w) X E) : CallR X (.builtin "repr") (rReprT a) := by
  intro pins s σ H xs us Q I r h
  obtain ⟨v, t, rfl, ht, ok, hd, q⟩ := h
  obtain ⟨x, C, dx, fs, rfl, hH, hc, _⟩ := tm_at T ht
  exact call_reprOwn (cls_of T F hc).repr T.m_Term_repr.fn (fn_Term_repr T 6) g0 hr hx pins s σ H [.ref x] us Q I r ⟨x, dx, fs, rfl, hH, .ref x, t, rfl, ht, rep_ok ok hd, by omega, fun H' e => ⟨_, rfl, q H' e⟩⟩
theorem eq_side {H : Hp} {v y : V} {t : TM.Tree} {Q : Bool → Hp → Prop} {Q' : VK} (T : Txt X.K X.mg a) (ht : TM.TmAt (csOf a) H v t) (ok : TM.Ok t) (hd : t.depth ≤ 5) (h : Side a H t y Q) (k : ∀ b H', Q b H' → Q' (.bl b) H') : sp_Term_eq X.K a 6 [v, y] H Q' E := by
  refine ⟨v, y, t, rfl, ht, rep_ok ok hd, by omega, ?_⟩
  rcases h with ⟨t2, ht2, ok2, hd2, q⟩ | ⟨kn, kd, q⟩
  · exact .inl ⟨t2, ht2, rep_ok ok2 hd2, by omega, fun H' e => k _ _ (q H' e)⟩
  · exact .inr ⟨.type kn, fun H' e => (kd_up e kd).ty, kd_not T.g_Term kd, fun H' e => k _ _ (q H' e)⟩
theorem side_ty {H : Hp} {y : V} {t : TM.Tree} {Q : Bool → Hp → Prop} {C : Addr} (T : Txt X.K X.mg a) (hc : IsT a C) (h : Side a H t y Q) : ∃ tb, TyX X.K H y tb ∧ PySem.W.notFirst X.K C tb = true := by
  rcases h with ⟨t2, ht2, _, _, _⟩ | ⟨kn, kd, _⟩
  · obtain ⟨_, D, _, _, _, _, hd, ty⟩ := tm_at T ht2
    exact ⟨_, ty, is_first T hc hd⟩
  · exact ⟨_, kd.ty, kd_first kd⟩
theorem op_eq_tm (T : Txt X.K X.mg a) (F : Files X.prog X.K a) (g0 : X.A.guards = some []) (hr : Room 9 X.A) (hx : Passes (L2.CX X.prog X.w) X E) : OpR X (compareOp .Eq) (rEqT a) := by
  intro pins s σ H x y v u Q I rx ry h
  obtain ⟨t, ht, ok, hd, sd⟩ := h
  obtain ⟨x, C, dx, fs, rfl, hH, hc, _⟩ := tm_at T ht
  obtain ⟨tb, ty, nf⟩ := side_ty T hc sd
  exact op_eqOwn (cls_of T F hc).eq T.m_Term_eq.fn (fn_Term_eq T 6) g0 hr hx pins s σ H _ y v u Q I rx ry ⟨x, dx, fs, tb, rfl, hH, ty, nf, eq_side T ht ok hd sd fun b H' q => ⟨b, rfl, q⟩⟩
theorem op_ne_tm (T : Txt X.K X.mg a) (F : Files X.prog X.K a) (g0 : X.A.guards = some []) (hr : Room 10 X.A) (hx : Passes (L2.CX X.prog X.w) X E) : OpR X (compareOp .NotEq) (rNeT a) := by
  intro pins s σ H x y v u Q I rx ry h
  obtain ⟨t, ht, ok, hd, sd⟩ := h
  obtain ⟨x, C, dx, fs, rfl, hH, hc, _⟩ := tm_at T ht
  obtain ⟨tb, ty, nf⟩ := side_ty T hc sd
  exact op_neOwn (cls_of T F hc).obj (cls_of T F hc).ne (cls_of T F hc).eq T.m_Term_eq.fn (fn_Term_eq T 6) g0 hr hx pins s σ H _ y v u Q I rx ry ⟨x, dx, fs, tb, rfl, hH, ty, nf, eq_side T ht ok hd sd fun b H' q => ⟨b, rfl, q⟩⟩
theorem op_eq_right (T : Txt X.K X.mg a) (F : Files X.prog X.K a) (g0 : X.A.guards = some []) (hr : Room 9 X.A) (hx : Passes (L2.CX X.prog X.w) X E) : OpR X (compareOp .Eq) (rEqR a) := by
  intro pins s σ H x y v u Q I rx ry h
  obtain ⟨t, k, ht, ok, hd, kd, q⟩ := h
  obtain ⟨b, C, dx, fs, rfl, hH, hc, _⟩ := tm_at T ht
  exact op_eqRight (cls_of T F hc).eq T.m_Term_eq.fn (cls_of T F hc).nk (fn_Term_eq T 6) g0 hr hx pins s σ H x _ v u Q I rx ry ⟨b, dx, fs, k, rfl, hH, kd, eq_side (Q := fun b H' => Q (.bl b) H') T ht ok hd (.inr ⟨k, kd, q⟩) fun b H' q => ⟨b, rfl, q⟩⟩
theorem op_and_tm (T : Txt X.K X.mg a) (F : Files X.prog X.K a) (g0 : X.A.guards = some []) (hr : Room 7 X.A) (hx : Passes (L2.CX X.prog X.w) X E) : OpR X (binaryOp .BitAnd) (rAndT a) := by
  intro pins s σ H x y v u Q I rx ry h
  obtain ⟨t, t2, ht, ht2, q⟩ := h
  obtain ⟨x, C, dx, fs, rfl, hH, hc, _⟩ := tm_at T ht
  obtain ⟨y, D, dy, gs, rfl, hH2, hd, _⟩ := tm_at T ht2
  exact op_binOwn (op := .BitAnd) T.m_Term_and.fn (fn_Term_and T F) g0 hr hx pins s σ H _ _ v u Q I rx ry ⟨x, C, dx, fs, y, D, dy, gs, rfl, hH, rfl, hH2, (cls_of T F hc).and_, (cls_of T F hd).and_, cls_apart T hc hd, .ref x, .ref y, t, t2, rfl, ht, ht2, fun z H' e hz => let ⟨c, ec⟩ := tm_ref hz; ⟨c, ec, q z H' e hz⟩⟩
theorem op_or_tm (T : Txt X.K X.mg a) (F : Files X.prog X.K a) (g0 : X.A.guards = some []) (hr : Room 7 X.A) (hx : Passes (L2.CX X.prog X.w) X E) : OpR X (binaryOp .BitOr) (rOrT a) := by
  intro pins s σ H x y v u Q I rx ry h
  obtain ⟨t, t2, ht, ht2, q⟩ := h
  obtain ⟨x, C, dx, fs, rfl, hH, hc, _⟩ := tm_at T ht
  obtain ⟨y, D, dy, gs, rfl, hH2, hd, _⟩ := tm_at T ht2
  exact op_binOwn (op := .BitOr) T.m_Term_or.fn (fn_Term_or T F) g0 hr hx pins s σ H _ _ v u Q I rx ry ⟨x, C, dx, fs, y, D, dy, gs, rfl, hH, rfl, hH2, (cls_of T F hc).or_, (cls_of T F hd).or_, cls_apart T hc hd, .ref x, .ref y, t, t2, rfl, ht, ht2, fun z H' e hz => let ⟨c, ec⟩ := tm_ref hz; ⟨c, ec, q z H' e hz⟩⟩
end
end K13
namespace K13
open PySem PySem.Spec PyProof.Rows L2 LG Evl
section
variable {P : Program} {w : World} {K : PySem.W.Frag} {mg : Str → Option Value} {base : Heap} {a : At}
/-! ### the law's places -/
def Nm (v : V) : Prop := ∃ n ∈ TM.names, v = .str n
theorem seq_ix {i : Nat} {n : Nat} (h : i < n) : seqIndex? (i : Int) n = some i := by
  have h0 : ¬ ((i : Int) < 0) := by omega
  have h1 : (i : Int) < (n : Int) := by omega
  unfold seqIndex?
  simp [h0, h1, h]
theorem mt_popR {X : Cx} : MtR X "list.pop" rPopAt := mt_popAt
def sp__law_places : Sp := fun vs H Q _ => ∃ (p : Addr), vs = [.ref p] ∧ Po p H ∧ ∀ (l : Addr) (xs : List V) (H' : Hp), H l = none → H' l = some (.lst xs) → 0 < xs.length → xs.length ≤ 5 → (∀ x ∈ xs, Nm x) → Px p H H' → Q (.ref l) H'
theorem ok__law_places (T : Txt K mg a) : Fn P w K mg base 2 a._law_places sp__law_places := by
  have G__law_draw : Fn P w K mg base 1 a._law_draw sp__law_draw := ok__law_draw T
  refine T.d__law_places.fn sc__law_places (fun _ _ _ _ _ _ us hl => match us, hl with | [_], _ => rfl) (fun vs H Q E h => ?_) (fun cdv A outer s H vs Q E hg hr h => ?_)
  · obtain ⟨_, rfl, _⟩ := h
    rfl
  · obtain ⟨p, rfl, hp, q⟩ := h
    have nd := sc__law_places.nd
    refine ⟨_, (pss_cons (ps_set (i := 1) nd rfl (.inr rfl) (pe_lst (pa_cons pe_str (pa_cons pe_str (pa_cons pe_str (pa_cons pe_str (pa_cons pe_str (pa_cons pe_str (pa_cons pe_str (pa_cons pe_str pa_nil))))))))))
    (pss_one (ps_ret (pe_lc rfl (own := [("turn", 2)]) (g := gName 2) (by exact nd) (pi_range1 (by rfl) T.z_range (pa_cons (pe_op op_add pe_int (pe_fn G__law_draw hg (hr.mono (by decide)) T.d__law_draw.kp T.d__law_draw.m (by rfl) passL (pa_cons (pv 0) (pa_cons pe_int pa_nil)))) pa_nil)) (blkOk_by (own := [("turn", 2)]) (N := ["pot", "left", "turn"]) (sc := defScope s__law_places) (by decide +kernel)) (fun _ _ _ _ _ => (pg_name (i := 2) nd rfl (.inl rfl))) (fun _ _ _ _ _ => pts_nil) (fun _ _ _ _ _ => (pe_bmK (K := K) rfl PySem.F.plainAttrs_list PySem.F.slot_list_pop PySem.F.type_list_pop mt_popR (pv 1) (pa_cons (pe_fn G__law_draw hg (hr.mono (by decide)) T.d__law_draw.kp T.d__law_draw.m (by rfl) passL (pa_cons (pv 0) (pa_cons (pe_callB (cr_lenK (K := K) rfl) (by rfl) T.z_len (by decide +kernel) (pa_cons (pv 1) pa_nil)) pa_nil))) pa_nil))))))), ?_⟩
    refine ⟨(by decide : 8 ≤ sizeLine), fun l hl => ?_⟩
    have lp : l ≠ p := hp.ne hl
    refine ⟨.ref p, rfl, p, 5, rfl, hp.up (Ex.new hl), by decide, by decide, fun d H2 d0 d1 x2 => ?_⟩
    refine ⟨1, d, rfl, rfl, 1 + d, rfl, by omega, by omega, ?_⟩
    refine lcR_inv (by omega) (fun _ => rfl) (fun D i acc H' => (∀ b o, b ≠ p → b ≠ l → b ≠ D → H2 b = some o → H' b = some o) ∧ Po p H' ∧ (∃ ys, H' l = some (.lst ys) ∧ ys.length + i = 8 ∧ ∀ y ∈ ys, Nm y) ∧ ∀ y ∈ acc, Nm y) ?_ ?_ ?_
    · intro D hD
      refine ⟨fun b o _ _ bd e => by rw [upd_ne bd]; exact e, x2.2.up (Ex.new hD), ⟨placesV, ?_, rfl, ?_⟩, fun y hy => nomatch hy⟩
      · have e := x2.1 l _ lp upd_same
        rw [upd_ne (ne_of_none e hD)]
        exact e
      · intro y hy
        simp only [placesV, List.mem_cons, List.not_mem_nil, or_false] at hy
        rcases hy with rfl | rfl | rfl | rfl | rfl | rfl | rfl | rfl <;> exact ⟨_, by decide, rfl⟩
    · rintro D i acc H' hD hi hlen ⟨f, hp', ⟨ys, hy, hyl, hyn⟩, han⟩ hx Q' k
      have e2 := x2.1 l _ lp upd_same
      have Dl : l ≠ D := ne_of_none e2 hD
      have Dp : D ≠ p := x2.ne hD
      refine ⟨.ref l, rfl, .inl ⟨rfl, _, sq_of hy⟩, .ref p, rfl, .ref l, rfl, l, ys, rfl, .inl (sq_of hy), p, ys.length, rfl, hp', by omega, by omega, fun d H4 d0 d1 x4 => ?_⟩
      obtain ⟨m, rfl⟩ := Int.eq_ofNat_of_zero_le d0
      have hm : m < ys.length := by omega
      have hy4 := x4.1 l _ lp hy
      have hx4 := x4.1 D _ Dp hx
      refine ⟨l, ys, m, m, ys[m], rfl, rfl, hy4, by omega, by omega, seq_ix hm, List.getElem?_eq_getElem hm, k _ _ (by rw [upd_ne (Ne.symm Dl)]; exact hx4) ⟨fun b o bp bl bd e => ?_, ?_, ⟨ys.eraseIdx m, ?_, ?_, ?_⟩, ?_⟩⟩
      · rw [upd_ne bd, upd_ne bl]
        exact x4.1 b o bp (f b o bp bl bd e)
      · obtain ⟨x, y, h1, h2⟩ := x4.2
        exact ⟨x, y, by rw [upd_ne (Ne.symm Dp), upd_ne (Ne.symm lp)]; exact h1, h2⟩
      · rw [upd_ne Dl, upd_same]
      · rw [List.length_eraseIdx_of_lt hm]
        omega
      · exact fun y hy => hyn y (List.mem_of_mem_eraseIdx hy)
      · intro y hy
        rcases List.mem_append.mp hy with hy | hy
        · exact han y hy
        · rw [List.mem_singleton.mp hy]
          exact hyn _ (List.getElem_mem hm)
    · rintro D xs H' hD hlen ⟨f, hp', _, hn⟩ hx
      have e2 := x2.1 l _ lp upd_same
      have Dl : l ≠ D := ne_of_none e2 hD
      have h1 := x2.fresh hD
      rw [upd_ne (Ne.symm Dl)] at h1
      exact q D xs H' h1 hx (by omega) (by omega) hn ⟨fun b o bp e => f b o bp (ne_of_none e hl) (ne_of_none e h1) (x2.1 b o bp (Ex.new hl b o e)), hp'⟩
end
end K13
namespace K13
open PySem PySem.Spec PyProof.Rows L2 LG Evl
/-! ### the law's terms, drawn -/
/-- i parts are made; they stand at new places -/
structure WT (p : Addr) (H0 : Hp) (m : Nat) (D : Addr) (i : Nat) (acc : List V) (H' : Hp) : Prop where
  fr : ∀ b o, b ≠ p → b ≠ D → H0 b = some o → H' b = some o
  po : Po p H'
  ex : ∃ ts : List TM.Tree, ts.length = acc.length ∧ (∀ t ∈ ts, TM.Ok t ∧ t.depth ≤ m) ∧ ∀ (k : Nat) (x : V) (t : TM.Tree), acc[k]? = some x → ts[k]? = some t → TM.MdAt (fun b => H0 b = none ∧ b ≠ D) H' x t
theorem depthAll_le {m : Nat} : ∀ {ts : List TM.Tree}, (∀ t ∈ ts, t.depth ≤ m) → TM.Tree.depthAll ts ≤ m
  | [], _ => Nat.zero_le _
  | t :: ts, h => by
    rw [TM.Tree.depthAll]
    exact Nat.max_le.mpr ⟨h t List.mem_cons_self, depthAll_le fun u hu => h u (List.mem_cons_of_mem _ hu)⟩
theorem Po.at {p : Addr} {H : Hp} (h : Po p H) : H p ≠ none := by
  obtain ⟨x, y, h1, _⟩ := h
  rw [h1]
  exact fun z => by cases z
theorem wt_start {p : Addr} {H0 : Hp} {m : Nat} {D : Addr} (hp : Po p H0) (hD : H0 D = none) : WT p H0 m D 0 [] (upd H0 D (.lst [])) :=
  ⟨fun b o _ bd e => by rw [upd_ne bd]; exact e, hp.up (Ex.new hD), ([] : List TM.Tree), rfl, ⟨fun t ht => absurd ht List.not_mem_nil, fun k x t h _ => by simp at h⟩⟩
theorem get_snoc {α : Type} {xs : List α} {x y : α} {k : Nat} (h : (xs ++ [y])[k]? = some x) : xs[k]? = some x ∨ (k = xs.length ∧ x = y) := by
  rcases Nat.lt_trichotomy k xs.length with z | z | z
  · rw [List.getElem?_append_left z] at h
    exact .inl h
  · subst z
    rw [List.getElem?_append_right (Nat.le_refl _), Nat.sub_self] at h
    simp at h
    exact .inr ⟨rfl, h.symm⟩
  · rw [List.getElem?_append_right (Nat.le_of_lt z)] at h
    obtain ⟨j, hj⟩ : ∃ j, k - xs.length = j + 1 := ⟨k - xs.length - 1, by omega⟩
    rw [hj] at h
    simp at h
theorem wt_step {p : Addr} {H0 H' H4 : Hp} {m i : Nat} {D : Addr} {acc : List V} {y : V} {t : TM.Tree} (hp0 : Po p H0) (w : WT p H0 m D i acc H') (hD : H0 D = none) (hx : H' D = some (.lst acc)) (x4 : Px p H' H4) (ht : TM.MdAt (fun b => H' b = none) H4 y t) (ok : TM.Ok t) (hd : t.depth ≤ m) :
    WT p H0 m D (i + 1) (acc ++ [y]) (upd H4 D (.lst (acc ++ [y]))) := by
  obtain ⟨fr, po, ts, hl, hok, hat⟩ := w
  have Dp : D ≠ p := hp0.ne hD
  refine ⟨fun b o bp bd e => by rw [upd_ne bd]; exact x4.1 b o bp (fr b o bp bd e), ?_, ts ++ [t], by simp [hl], fun u hu => ?_, fun k x u h1 h2 => ?_⟩
  · obtain ⟨x, y', h1, h2⟩ := x4.2
    exact ⟨x, y', by rw [upd_ne (Ne.symm Dp)]; exact h1, h2⟩
  · rcases List.mem_append.mp hu with hu | hu
    · exact hok u hu
    · rw [List.mem_singleton.mp hu]
      exact ⟨ok, hd⟩
  · rcases get_snoc h1 with z1 | ⟨k1, rfl⟩ <;> rcases get_snoc h2 with z2 | ⟨k2, rfl⟩
    · refine (hat k x u z1 z2).up (fun b s => s) fun b o s e => ?_
      rw [upd_ne s.2]
      exact x4.1 b o (fun z => hp0.at (z ▸ s.1)) e
    · have := (List.getElem?_eq_some_iff.mp z1).1
      omega
    · have := (List.getElem?_eq_some_iff.mp z2).1
      omega
    · refine ht.up (fun b s => ?_) fun b o s e => ?_
      · have bd : b ≠ D := fun z => by rw [z, hx] at s; cases s
        refine ⟨?_, bd⟩
        cases e : H0 b with
        | none => rfl
        | some o =>
          by_cases bp : b = p
          · exact absurd (bp ▸ s) po.at
          · rw [fr b o bp bd e] at s
            cases s
      · have bd : b ≠ D := fun z => by rw [z, hx] at s; cases s
        rw [upd_ne bd]
        exact e
theorem wt_px {p : Addr} {H0 H' : Hp} {m i : Nat} {D : Addr} {acc : List V} (w : WT p H0 m D i acc H') (hD : H0 D = none) : Px p H0 H' := ⟨fun b o bp e => w.fr b o bp (fun z => by rw [z, hD] at e; cases e) e, w.po⟩
def Words (x : V) : Prop := x = .str "lesser" ∨ x = .str "greater"
theorem wt_done {p q : Addr} {H0 H' : Hp} {m : Nat} {D : Addr} {xs : List V} {word : V} (hp0 : Po p H0) (hw : Words word) (w : WT p H0 m D xs.length xs H') (hD : H0 D = none) (hx : H' D = some (.lst xs)) (hl8 : TM.Ln xs.length) (hq : H' q = none) :
    ∃ t, TM.Ok t ∧ t.depth ≤ m + 1 ∧ TM.MdAt (fun b => H0 b = none) (upd H' q (.tup [word, .ref D])) (.ref q) t := by
  have px := wt_px w hD
  obtain ⟨fr, po, ts, hl, hok, hat⟩ := w
  have qD : D ≠ q := ne_of_none hx hq
  have sq := px.fresh hq
  have at2 : ∀ (k : Nat) (x : V) (t : TM.Tree), xs[k]? = some x → ts[k]? = some t → TM.MdAt (fun b => H0 b = none) (upd H' q (.tup [word, .ref D])) x t := fun k x t h1 h2 => (hat k x t h1 h2).up (fun b s => s.1) fun b o s e => by
    rw [upd_ne (ne_of_none e hq)]
    exact e
  have hdp : TM.Tree.depthAll ts ≤ m := depthAll_le fun t ht => (hok t ht).2
  rcases hw with rfl | rfl
  · exact ⟨.lesser ts, .lesser (hl ▸ hl8) fun t ht => (hok t ht).1, by rw [TM.Tree.depth]; omega, .lesser sq upd_same hD (by rw [upd_ne qD]; exact hx) hl.symm at2⟩
  · exact ⟨.greater ts, .greater (hl ▸ hl8) fun t ht => (hok t ht).1, by rw [TM.Tree.depth]; omega, .greater sq upd_same hD (by rw [upd_ne qD]; exact hx) hl.symm at2⟩
section
variable {P : Program} {w : World} {K : PySem.W.Frag} {mg : Str → Option Value} {base : Heap} {a : At}
def sp__law_term (n : Nat) : Sp := fun vs H Q _ => ∃ (p l : Addr) (xs : List V) (d : Nat) (di : Int), vs = [.ref p, .ref l, .int di] ∧ di = (d : Int) ∧ d < n ∧ Po p H ∧ H l = some (.lst xs) ∧ l ≠ p ∧ 0 < xs.length ∧ xs.length ≤ 5 ∧ (∀ x ∈ xs, Nm x) ∧
  ∀ v t H', TM.Ok t → t.depth ≤ d → TM.MdAt (fun b => H b = none) H' v t → Px p H H' → Q v H'
theorem ok__law_term (T : Txt K mg a) : ∀ n, Fn P w K mg base (n + 2) a._law_term (sp__law_term n) := by
  intro n
  induction n with
  | zero =>
    refine T.d__law_term.fn sc__law_term (fun _ _ _ _ _ _ us hl => match us, hl with | [_, _, _], _ => rfl) (fun vs H Q E h => ?_) (fun cdv A outer s H vs Q E hg hr h => ?_)
    · obtain ⟨_, _, _, _, _, rfl, _⟩ := h
      rfl
    · obtain ⟨_, _, _, _, _, _, _, hd, _⟩ := h
      exact absurd hd (Nat.not_lt_zero _)
  | succ n ih =>
    have G__law_draw : Fn P w K mg base 1 a._law_draw sp__law_draw := ok__law_draw T
    have G__law_pick : Fn P w K mg base 2 a._law_pick sp__law_pick := ok__law_pick T
    have G__law_term := ih
    refine T.d__law_term.fn sc__law_term (fun _ _ _ _ _ _ us hl => match us, hl with | [_, _, _], _ => rfl) (fun vs H Q E h => ?_) (fun cdv A outer s H vs Q E hg hr h => ?_)
    · obtain ⟨_, _, _, _, _, rfl, _⟩ := h
      rfl
    · obtain ⟨p, l, xs, d, di, rfl, rfl, hd, hp, hl, lp, h0, h5, hn, q⟩ := h
      have nd := sc__law_term.nd
      refine ⟨_, (pss_cons (ps_set (i := 3) nd rfl (.inl rfl) (pe_fn G__law_draw hg (hr.mono (by omega)) T.d__law_draw.kp T.d__law_draw.m (by rfl) passL (pa_cons (pv 0) (pa_cons pe_int pa_nil))))
    (pss_cons (ps_if (PW.pt (pw_or (pt_cmpR op_eq (pv 2) pe_int (nomark _)) (pw_or1 (pt_cmpR op_lt (pv 3) pe_int (nomark _))))) (pss_cons (ps_if (pt_cmpR op_eq (pe_fn G__law_draw hg (hr.mono (by omega)) T.d__law_draw.kp T.d__law_draw.m (by rfl) passL (pa_cons (pv 0) (pa_cons pe_int pa_nil))) pe_int (nomark _)) (pss_one (ps_ret (pe_tup (pa_cons pe_str (pa_cons (pe_fn G__law_pick hg (hr.mono (by omega)) T.d__law_pick.kp T.d__law_pick.m (by rfl) passL (pa_cons (pv 0) (pa_cons (pe_lst (pa_cons pe_str (pa_cons pe_str pa_nil))) pa_nil))) pa_nil))))) pss_nil)
      (pss_one (ps_ret (pe_tup (pa_cons pe_str (pa_cons (pe_fn G__law_pick hg (hr.mono (by omega)) T.d__law_pick.kp T.d__law_pick.m (by rfl) passL (pa_cons (pv 0) (pa_cons (pv 1) pa_nil))) pa_nil)))))) pss_nil)
    (pss_cons (ps_set (i := 4) nd rfl (.inl rfl) (pe_fn G__law_pick hg (hr.mono (by omega)) T.d__law_pick.kp T.d__law_pick.m (by rfl) passL (pa_cons (pv 0) (pa_cons (pe_lst (pa_cons pe_str (pa_cons pe_str pa_nil))) pa_nil))))
    (pss_cons (ps_if (pt_cmpR op_eq (pv 3) pe_int (nomark _)) (pss_one (ps_ret (pe_tup (pa_cons (pv 4) (pa_cons (pe_lc rfl (own := [("turn", 5)]) (g := gName 5) (by exact nd) (pi_range1 (by rfl) T.z_range (pa_cons pe_int pa_nil)) (blkOk_by (own := [("turn", 5)]) (N := ["pot", "places", "deep", "way", "word", "turn"]) (sc := defScope s__law_term) (by decide +kernel)) (fun _ _ _ _ _ => (pg_name (i := 5) nd rfl (.inl rfl))) (fun _ _ _ _ _ => pts_nil) (fun _ _ _ _ _ => (pe_tup (pa_cons pe_str (pa_cons (pe_fn G__law_pick hg (hr.mono (by omega)) T.d__law_pick.kp T.d__law_pick.m (by rfl) passL (pa_cons (pv 0) (pa_cons (pv 1) pa_nil))) pa_nil))))) pa_nil))))) pss_nil)
    (pss_one (ps_ret (pe_tup (pa_cons (pv 4) (pa_cons (pe_lc rfl (own := [("turn", 5)]) (g := gName 5) (by exact nd) (pi_range1 (by rfl) T.z_range (pa_cons (pe_fn G__law_pick hg (hr.mono (by omega)) T.d__law_pick.kp T.d__law_pick.m (by rfl) passL (pa_cons (pv 0) (pa_cons (pe_lst (pa_cons pe_int (pa_cons pe_int (pa_cons pe_int (pa_cons pe_int pa_nil))))) pa_nil))) pa_nil)) (blkOk_by (own := [("turn", 5)]) (N := ["pot", "places", "deep", "way", "word", "turn"]) (sc := defScope s__law_term) (by decide +kernel)) (fun _ _ _ _ _ => (pg_name (i := 5) nd rfl (.inl rfl))) (fun _ _ _ _ _ => pts_nil) (fun _ _ _ _ _ => (pe_fn G__law_term hg (hr.mono (by omega)) T.d__law_term.kp T.d__law_term.m (by rfl) passL (pa_cons (pv 0) (pa_cons (pv 1) (pa_cons (pe_op op_sub (pv 2) pe_int) pa_nil)))))) pa_nil))))))))), ?_⟩
      refine ⟨.ref p, rfl, p, 9, rfl, hp, by decide, by decide, fun way H1 w0 w1 x1 => ?_⟩
      have l1 := x1.1 l _ lp hl
      refine q_when (b := decide (V.int (d : Int) = V.int 0) || decide (way < 2)) (et_or (et_test (ev_op (ev_var rfl) ev_c (rv_eq rfl))) fun _ => et_test (ev_op (ev_var rfl) ev_c rv_I0)) (fun _ H2 e2 => ?_) (fun hb H2 e2 => ?_)
      · have x2 := x1.ex e2
        refine ⟨.ref p, rfl, p, 6, rfl, x2.2, by decide, by decide, fun d2 H3 d20 d21 x3 => ⟨rfl, _, rfl, ?_⟩⟩
        have x03 := x2.trans x3
        by_cases c : V.int d2 = V.int 0
        · rw [decide_eq_true c]
          refine iteT ⟨.ref p, rfl, (by decide : 2 ≤ sizeLine), fun z hz => ⟨p, z, _, rfl, x03.2.up (Ex.new hz), upd_same, x03.ne hz, by decide, by decide, fun x hx H4 x4 => ⟨(by decide : 2 ≤ sizeLine), fun y hy => ?_⟩⟩⟩
          have x04 := (x03.ex (Ex.new hz)).trans x4
          have sy := x04.fresh hy
          have xf := x04.ex (Ex.new (o := .tup [.str "end", x]) hy)
          simp only [List.mem_cons, List.not_mem_nil, or_false] at hx
          rcases hx with rfl | rfl
          · exact q (.ref y) (.endd "bottom") _ (.endd (by decide)) (Nat.zero_le _) (.endd sy upd_same) xf
          · exact q (.ref y) (.endd "top") _ (.endd (by decide)) (Nat.zero_le _) (.endd sy upd_same) xf
        · rw [decide_eq_false c]
          refine iteF ⟨.ref p, rfl, .ref l, rfl, p, l, xs, rfl, x03.2, x03.1 l _ lp hl, lp, h0, by omega, fun x hx H4 x4 => ⟨(by decide : 2 ≤ sizeLine), fun y hy => ?_⟩⟩
          have x04 := x03.trans x4
          have sy := x04.fresh hy
          have xf := x04.ex (Ex.new (o := .tup [.str "place", x]) hy)
          obtain ⟨nm, hnm, rfl⟩ := hn x hx
          exact q (.ref y) (.place nm) _ (.place hnm) (Nat.zero_le _) (.place sy upd_same) xf
      · have x2 := x1.ex e2
        have dn : d ≠ 0 := fun z => by
          subst z
          simp at hb
        obtain ⟨d, rfl⟩ : ∃ e, d = e + 1 := ⟨d - 1, by omega⟩
        refine ⟨.ref p, rfl, (by decide : 2 ≤ sizeLine), fun z hz => ⟨p, z, _, rfl, x2.2.up (Ex.new hz), upd_same, x2.ne hz, by decide, by decide, fun word hw H3 x3 => ?_⟩⟩
        have x03 := (x2.ex (Ex.new hz)).trans x3
        have ww : Words word := by
          simp only [List.mem_cons, List.not_mem_nil, or_false] at hw
          exact hw
        clear hw
        have l3 := x03.1 l _ lp hl
        have fin : ∀ (H4 : Hp) (D : Addr) (acc : List V) (H' : Hp), Px p H H4 → H4 D = none → WT p H4 d D acc.length acc H' → H' D = some (.lst acc) → TM.Ln acc.length → 2 ≤ sizeLine ∧ ∀ y, H' y = none → Q (.ref y) (upd H' y (.tup [word, .ref D])) := fun H4 D acc H' x4 hD w hx a8 => by
          refine ⟨(by decide : 2 ≤ sizeLine), fun y hy => ?_⟩
          obtain ⟨t, ok, hdp, hat⟩ := wt_done x4.2 ww w hD hx a8 hy
          exact q (.ref y) t _ ok hdp (hat.up (fun b s => x4.fresh s) fun b o _ e => e) ((x4.trans (wt_px w hD)).ex (Ex.new hy))
        refine q_when (b := decide (V.int way = V.int 8)) (et_test (ev_op (ev_var rfl) ev_c (rv_eq rfl))) (fun _ H4 e4 => ?_) (fun _ H4 e4 => ?_)
        · have x04 := x03.ex e4
          refine ⟨word, rfl, 8, rfl, by decide, by decide, ?_⟩
          dsimp only
          refine lcR_inv (m := 8) (by decide) ?_ (WT p H4 d) (fun D hD => wt_start x04.2 hD) ?_ ?_
          · exact fun _ => rfl
          rotate_left
          · exact fun D acc H' hD ha w hx => fin H4 D acc H' x04 hD w hx (.inr (.inr (.inr (by omega))))
          intro D i acc H' hD hi hlen w hx Q' k
          have lD : l ≠ D := ne_of_none (x04.1 l _ lp hl) hD
          refine ⟨.ref p, rfl, .ref l, rfl, p, l, xs, rfl, w.po, w.fr l _ lp lD (x04.1 l _ lp hl), lp, h0, by omega, fun x hx2 H5 x5 => ⟨(by decide : 2 ≤ sizeLine), fun y hy => ?_⟩⟩
          obtain ⟨nm, hnm, rfl⟩ := hn x hx2
          have x5' := x5.ex (Ex.new (o := .tup [.str "place", .str nm]) hy)
          exact k _ _ (x5'.1 D _ (x04.ne hD) hx) (wt_step x04.2 w hD hx x5' (.place (x5.fresh hy) upd_same) (.place hnm) (Nat.zero_le _))
        · have x04 := x03.ex e4
          refine ⟨word, rfl, .ref p, rfl, (by decide : 4 ≤ sizeLine), fun z2 hz2 => ⟨p, z2, _, rfl, x04.2.up (Ex.new hz2), upd_same, x04.ne hz2, by decide, by decide, fun many hm H5 x5 => ?_⟩⟩
          have x05 := (x04.ex (Ex.new hz2)).trans x5
          obtain ⟨m, rfl, mm⟩ : ∃ m : Int, many = .int m ∧ (m = 2 ∨ m = 3 ∨ m = 4) := by
            simp only [List.mem_cons, List.not_mem_nil, or_false] at hm
            rcases hm with rfl | rfl | rfl | rfl <;> exact ⟨_, rfl, by decide⟩
          refine ⟨m, rfl, by omega, by omega, ?_⟩
          dsimp only
          refine lcR_inv (m := m) (by omega) ?_ (WT p H5 d) (fun D hD => wt_start x05.2 hD) ?_ ?_
          · exact fun _ => rfl
          rotate_left
          · exact fun D acc H' hD ha w hx => fin H5 D acc H' x05 hD w hx (by
            rcases mm with rfl | rfl | rfl
            · exact .inl (by omega)
            · exact .inr (.inl (by omega))
            · exact .inr (.inr (.inl (by omega))))
          intro D i acc H' hD hi hlen w hx Q' k
          have lD : l ≠ D := ne_of_none (x05.1 l _ lp hl) hD
          refine ⟨.ref p, rfl, .ref l, rfl, .int ((d + 1 : Nat) : Int), rfl, _, 1, rfl, rfl, p, l, xs, d, _, rfl, by omega, by omega, w.po, w.fr l _ lp lD (x05.1 l _ lp hl), lp, h0, h5, hn, fun v t H6 ok hdp hat x6 => ?_⟩
          exact k _ _ (x6.1 D _ (x05.ne hD) hx) (wt_step x05.2 w hD hx x6 hat ok hdp)
end
end K13
namespace K13
open PySem PySem.Spec PyProof.Rows L2 LG Evl
section
variable {P : Program} {w : World} {K : PySem.W.Frag} {mg : Str → Option Value} {base : Heap} {a : At}
/-! ### the package's term of a word and its parts -/
def sp__law_joined (a : At) : Sp := fun vs H Q _ => ∃ (word : V) (l : Addr) (xs : List V) (ts : List TM.Tree), vs = [word, .ref l] ∧ H l = some (.lst xs) ∧ xs.length = ts.length ∧ TM.Ln xs.length ∧ (∀ (i : Nat) (y : V) (t : TM.Tree), xs[i]? = some y → ts[i]? = some t → TM.TmAt (csOf a) H y t) ∧
  ((word = .str "lesser" ∧ ∀ v H', Ex H H' → TM.TmAt (csOf a) H' v (.lesser ts) → Q v H') ∨ (word = .str "greater" ∧ ∀ v H', Ex H H' → TM.TmAt (csOf a) H' v (.greater ts) → Q v H'))
theorem ln_cases {xs : List V} (h : TM.Ln xs.length) : (∃ a b, xs = [a, b]) ∨ (∃ a b c, xs = [a, b, c]) ∨ (∃ a b c d, xs = [a, b, c, d]) ∨ (∃ a b c d e f g i, xs = [a, b, c, d, e, f, g, i]) := by
  rcases h with h | h | h | h
  · exact .inl (match xs, h with | [a, b], _ => ⟨a, b, rfl⟩)
  · exact .inr (.inl (match xs, h with | [a, b, c], _ => ⟨a, b, c, rfl⟩))
  · exact .inr (.inr (.inl (match xs, h with | [a, b, c, d], _ => ⟨a, b, c, d, rfl⟩)))
  · exact .inr (.inr (.inr (match xs, h with | [a, b, c, d, e, f, g, i], _ => ⟨a, b, c, d, e, f, g, i, rfl⟩)))
theorem s_make {C : Addr} {sp : Sp} {E : XK} {ta : TA} {xs : List V} {D : Ends} {σ : L2.St} {H : Hp} (h : EvA ta σ H xs) (k : ∀ H1, Ex H H1 → ∀ x dx, H1 x = none → H1 dx = none → dx ≠ x → sp (V.ref x :: xs) (upd (upd H1 dx (.own x)) x (.ins C dx [])) (fun v H2 => v = .non ∧ D.rt (.ref x) H2) E) : tRet (StX.tMakeR C sp E ta) D σ H := h H (Ex.refl H) _ k
theorem ok__law_joined (T : Txt K mg a) (F : Files P K a) : Fn P w K mg base 7 a._law_joined (sp__law_joined a) := by
  have F_Lesser := ok_Lesser_init (P := P) (w := w) (mg := mg) (base := base) T F.lesser F.top
  have F_Greater := ok_Greater_init (P := P) (w := w) (mg := mg) (base := base) T F.greater F.top
  refine T.d__law_joined.fn sc__law_joined (fun _ _ _ _ _ _ us hl => match us, hl with | [_, _], _ => rfl) (fun vs H Q E h => ?_) (fun cdv A outer s H vs Q E hg hr h => ?_)
  · obtain ⟨_, _, _, _, rfl, _⟩ := h
    rfl
  · obtain ⟨word, l, xs, ts, rfl, hl, hn, h8, hx, q⟩ := h
    have nd := sc__law_joined.nd
    refine ⟨_, (pss_cons (ps_if (pt_cmpR op_eq (pv 0) pe_str (nomark _)) (pss_cons (ps_if (pt_cmpR op_eq (pe_callB call_len_seq (by rfl) T.z_len (by decide +kernel) (pa_cons (pv 1) pa_nil)) pe_int (nomark _)) (pss_one (ps_ret (StX.pe_makeR T.mk_Lesser F_Lesser (hr.mono (by decide)) (by rfl) T.g_Lesser.m passL (pa_cons (pe_ix ix_list (pv 1) pe_int (fun _ _ => rfl)) (pa_cons (pe_ix ix_list (pv 1) pe_int (fun _ _ => rfl)) pa_nil))))) pss_nil)
      (pss_cons (ps_if (pt_cmpR op_eq (pe_callB call_len_seq (by rfl) T.z_len (by decide +kernel) (pa_cons (pv 1) pa_nil)) pe_int (nomark _)) (pss_one (ps_ret (StX.pe_makeR T.mk_Lesser F_Lesser (hr.mono (by decide)) (by rfl) T.g_Lesser.m passL (pa_cons (pe_ix ix_list (pv 1) pe_int (fun _ _ => rfl)) (pa_cons (pe_ix ix_list (pv 1) pe_int (fun _ _ => rfl)) (pa_cons (pe_ix ix_list (pv 1) pe_int (fun _ _ => rfl)) pa_nil)))))) pss_nil)
      (pss_cons (ps_if (pt_cmpR op_eq (pe_callB call_len_seq (by rfl) T.z_len (by decide +kernel) (pa_cons (pv 1) pa_nil)) pe_int (nomark _)) (pss_one (ps_ret (StX.pe_makeR T.mk_Lesser F_Lesser (hr.mono (by decide)) (by rfl) T.g_Lesser.m passL (pa_cons (pe_ix ix_list (pv 1) pe_int (fun _ _ => rfl)) (pa_cons (pe_ix ix_list (pv 1) pe_int (fun _ _ => rfl)) (pa_cons (pe_ix ix_list (pv 1) pe_int (fun _ _ => rfl)) (pa_cons (pe_ix ix_list (pv 1) pe_int (fun _ _ => rfl)) pa_nil))))))) pss_nil)
      (pss_one (ps_ret (StX.pe_makeR T.mk_Lesser F_Lesser (hr.mono (by decide)) (by rfl) T.g_Lesser.m passL (pa_cons (pe_ix ix_list (pv 1) pe_int (fun _ _ => rfl)) (pa_cons (pe_ix ix_list (pv 1) pe_int (fun _ _ => rfl)) (pa_cons (pe_ix ix_list (pv 1) pe_int (fun _ _ => rfl)) (pa_cons (pe_ix ix_list (pv 1) pe_int (fun _ _ => rfl)) (pa_cons (pe_ix ix_list (pv 1) pe_int (fun _ _ => rfl)) (pa_cons (pe_ix ix_list (pv 1) pe_int (fun _ _ => rfl)) (pa_cons (pe_ix ix_list (pv 1) pe_int (fun _ _ => rfl)) (pa_cons (pe_ix ix_list (pv 1) pe_int (fun _ _ => rfl)) pa_nil)))))))))))))) pss_nil)
    (pss_cons (ps_if (pt_cmpR op_eq (pe_callB call_len_seq (by rfl) T.z_len (by decide +kernel) (pa_cons (pv 1) pa_nil)) pe_int (nomark _)) (pss_one (ps_ret (StX.pe_makeR T.mk_Greater F_Greater (hr.mono (by decide)) (by rfl) T.g_Greater.m passL (pa_cons (pe_ix ix_list (pv 1) pe_int (fun _ _ => rfl)) (pa_cons (pe_ix ix_list (pv 1) pe_int (fun _ _ => rfl)) pa_nil))))) pss_nil)
    (pss_cons (ps_if (pt_cmpR op_eq (pe_callB call_len_seq (by rfl) T.z_len (by decide +kernel) (pa_cons (pv 1) pa_nil)) pe_int (nomark _)) (pss_one (ps_ret (StX.pe_makeR T.mk_Greater F_Greater (hr.mono (by decide)) (by rfl) T.g_Greater.m passL (pa_cons (pe_ix ix_list (pv 1) pe_int (fun _ _ => rfl)) (pa_cons (pe_ix ix_list (pv 1) pe_int (fun _ _ => rfl)) (pa_cons (pe_ix ix_list (pv 1) pe_int (fun _ _ => rfl)) pa_nil)))))) pss_nil)
    (pss_cons (ps_if (pt_cmpR op_eq (pe_callB call_len_seq (by rfl) T.z_len (by decide +kernel) (pa_cons (pv 1) pa_nil)) pe_int (nomark _)) (pss_one (ps_ret (StX.pe_makeR T.mk_Greater F_Greater (hr.mono (by decide)) (by rfl) T.g_Greater.m passL (pa_cons (pe_ix ix_list (pv 1) pe_int (fun _ _ => rfl)) (pa_cons (pe_ix ix_list (pv 1) pe_int (fun _ _ => rfl)) (pa_cons (pe_ix ix_list (pv 1) pe_int (fun _ _ => rfl)) (pa_cons (pe_ix ix_list (pv 1) pe_int (fun _ _ => rfl)) pa_nil))))))) pss_nil)
    (pss_one (ps_ret (StX.pe_makeR T.mk_Greater F_Greater (hr.mono (by decide)) (by rfl) T.g_Greater.m passL (pa_cons (pe_ix ix_list (pv 1) pe_int (fun _ _ => rfl)) (pa_cons (pe_ix ix_list (pv 1) pe_int (fun _ _ => rfl)) (pa_cons (pe_ix ix_list (pv 1) pe_int (fun _ _ => rfl)) (pa_cons (pe_ix ix_list (pv 1) pe_int (fun _ _ => rfl)) (pa_cons (pe_ix ix_list (pv 1) pe_int (fun _ _ => rfl)) (pa_cons (pe_ix ix_list (pv 1) pe_int (fun _ _ => rfl)) (pa_cons (pe_ix ix_list (pv 1) pe_int (fun _ _ => rfl)) (pa_cons (pe_ix ix_list (pv 1) pe_int (fun _ _ => rfl)) pa_nil))))))))))))))), ?_⟩
    rcases q with ⟨rfl, q⟩ | ⟨rfl, q⟩ <;> rcases ln_cases h8 with ⟨x0, x1, rfl⟩ | ⟨x0, x1, x2, rfl⟩ | ⟨x0, x1, x2, x3, rfl⟩ | ⟨x0, x1, x2, x3, x4, x5, x6, x7, rfl⟩
    · have sq : SqL K H l [x0, x1] := sq_of hl
      refine q_when (b := true) (et_eqT (ev_var rfl) ev_c rfl rfl) (fun z H1 e1 => ?_) (fun z H1 e1 => ?_)
      rotate_left
      · exact nomatch z
      have e01 := e1
      refine q_when (b := true) (et_eqT (ev_len (ev_var rfl) (ex_l e01 sq)) ev_c rfl rfl) (fun z H2 e2 => ?_) (fun z H2 e2 => ?_)
      rotate_left
      · exact nomatch z
      have e02 := e01.trans e2
      refine s_make (ea_cons (ev_op (ev_var rfl) ev_c (rv_ixL (ex_l e02 sq) (i := 0) rfl)) (ea_cons (ev_op (ev_var rfl) ev_c (rv_ixL (ex_l e02 sq) (i := 1) rfl)) ea_nil)) fun H9 e9 => lesser_made hn (by simp) (by simp) (fun i y t a b => (hx i y t a b).up (e02.trans e9)) fun v H8 e8 tm => q v H8 ((e02.trans e9).trans e8) tm
    · have sq : SqL K H l [x0, x1, x2] := sq_of hl
      refine q_when (b := true) (et_eqT (ev_var rfl) ev_c rfl rfl) (fun z H1 e1 => ?_) (fun z H1 e1 => ?_)
      rotate_left
      · exact nomatch z
      have e01 := e1
      refine q_when (b := false) (et_eqF (ev_len (ev_var rfl) (ex_l e01 sq)) ev_c rfl (by simp)) (fun z H2 e2 => ?_) (fun z H2 e2 => ?_)
      · exact nomatch z
      have e02 := e01.trans e2
      refine q_when (b := true) (et_eqT (ev_len (ev_var rfl) (ex_l e02 sq)) ev_c rfl rfl) (fun z H3 e3 => ?_) (fun z H3 e3 => ?_)
      rotate_left
      · exact nomatch z
      have e03 := e02.trans e3
      refine s_make (ea_cons (ev_op (ev_var rfl) ev_c (rv_ixL (ex_l e03 sq) (i := 0) rfl)) (ea_cons (ev_op (ev_var rfl) ev_c (rv_ixL (ex_l e03 sq) (i := 1) rfl)) (ea_cons (ev_op (ev_var rfl) ev_c (rv_ixL (ex_l e03 sq) (i := 2) rfl)) ea_nil))) fun H9 e9 => lesser_made hn (by simp) (by simp) (fun i y t a b => (hx i y t a b).up (e03.trans e9)) fun v H8 e8 tm => q v H8 ((e03.trans e9).trans e8) tm
    · have sq : SqL K H l [x0, x1, x2, x3] := sq_of hl
      refine q_when (b := true) (et_eqT (ev_var rfl) ev_c rfl rfl) (fun z H1 e1 => ?_) (fun z H1 e1 => ?_)
      rotate_left
      · exact nomatch z
      have e01 := e1
      refine q_when (b := false) (et_eqF (ev_len (ev_var rfl) (ex_l e01 sq)) ev_c rfl (by simp)) (fun z H2 e2 => ?_) (fun z H2 e2 => ?_)
      · exact nomatch z
      have e02 := e01.trans e2
      refine q_when (b := false) (et_eqF (ev_len (ev_var rfl) (ex_l e02 sq)) ev_c rfl (by simp)) (fun z H3 e3 => ?_) (fun z H3 e3 => ?_)
      · exact nomatch z
      have e03 := e02.trans e3
      refine q_when (b := true) (et_eqT (ev_len (ev_var rfl) (ex_l e03 sq)) ev_c rfl rfl) (fun z H4 e4 => ?_) (fun z H4 e4 => ?_)
      rotate_left
      · exact nomatch z
      have e04 := e03.trans e4
      refine s_make (ea_cons (ev_op (ev_var rfl) ev_c (rv_ixL (ex_l e04 sq) (i := 0) rfl)) (ea_cons (ev_op (ev_var rfl) ev_c (rv_ixL (ex_l e04 sq) (i := 1) rfl)) (ea_cons (ev_op (ev_var rfl) ev_c (rv_ixL (ex_l e04 sq) (i := 2) rfl)) (ea_cons (ev_op (ev_var rfl) ev_c (rv_ixL (ex_l e04 sq) (i := 3) rfl)) ea_nil)))) fun H9 e9 => lesser_made hn (by simp) (by simp) (fun i y t a b => (hx i y t a b).up (e04.trans e9)) fun v H8 e8 tm => q v H8 ((e04.trans e9).trans e8) tm
    · have sq : SqL K H l [x0, x1, x2, x3, x4, x5, x6, x7] := sq_of hl
      refine q_when (b := true) (et_eqT (ev_var rfl) ev_c rfl rfl) (fun z H1 e1 => ?_) (fun z H1 e1 => ?_)
      rotate_left
      · exact nomatch z
      have e01 := e1
      refine q_when (b := false) (et_eqF (ev_len (ev_var rfl) (ex_l e01 sq)) ev_c rfl (by simp)) (fun z H2 e2 => ?_) (fun z H2 e2 => ?_)
      · exact nomatch z
      have e02 := e01.trans e2
      refine q_when (b := false) (et_eqF (ev_len (ev_var rfl) (ex_l e02 sq)) ev_c rfl (by simp)) (fun z H3 e3 => ?_) (fun z H3 e3 => ?_)
      · exact nomatch z
      have e03 := e02.trans e3
      refine q_when (b := false) (et_eqF (ev_len (ev_var rfl) (ex_l e03 sq)) ev_c rfl (by simp)) (fun z H4 e4 => ?_) (fun z H4 e4 => ?_)
      · exact nomatch z
      have e04 := e03.trans e4
      refine s_make (ea_cons (ev_op (ev_var rfl) ev_c (rv_ixL (ex_l e04 sq) (i := 0) rfl)) (ea_cons (ev_op (ev_var rfl) ev_c (rv_ixL (ex_l e04 sq) (i := 1) rfl)) (ea_cons (ev_op (ev_var rfl) ev_c (rv_ixL (ex_l e04 sq) (i := 2) rfl)) (ea_cons (ev_op (ev_var rfl) ev_c (rv_ixL (ex_l e04 sq) (i := 3) rfl)) (ea_cons (ev_op (ev_var rfl) ev_c (rv_ixL (ex_l e04 sq) (i := 4) rfl)) (ea_cons (ev_op (ev_var rfl) ev_c (rv_ixL (ex_l e04 sq) (i := 5) rfl)) (ea_cons (ev_op (ev_var rfl) ev_c (rv_ixL (ex_l e04 sq) (i := 6) rfl)) (ea_cons (ev_op (ev_var rfl) ev_c (rv_ixL (ex_l e04 sq) (i := 7) rfl)) ea_nil)))))))) fun H9 e9 => lesser_made hn (by simp) (by simp) (fun i y t a b => (hx i y t a b).up (e04.trans e9)) fun v H8 e8 tm => q v H8 ((e04.trans e9).trans e8) tm
    · have sq : SqL K H l [x0, x1] := sq_of hl
      refine q_when (b := false) (et_eqF (ev_var rfl) ev_c rfl (str_ne (by decide))) (fun z H1 e1 => ?_) (fun z H1 e1 => ?_)
      · exact nomatch z
      have e01 := e1
      refine q_when (b := true) (et_eqT (ev_len (ev_var rfl) (ex_l e01 sq)) ev_c rfl rfl) (fun z H2 e2 => ?_) (fun z H2 e2 => ?_)
      rotate_left
      · exact nomatch z
      have e02 := e01.trans e2
      refine s_make (ea_cons (ev_op (ev_var rfl) ev_c (rv_ixL (ex_l e02 sq) (i := 0) rfl)) (ea_cons (ev_op (ev_var rfl) ev_c (rv_ixL (ex_l e02 sq) (i := 1) rfl)) ea_nil)) fun H9 e9 => greater_made hn (by simp) (by simp) (fun i y t a b => (hx i y t a b).up (e02.trans e9)) fun v H8 e8 tm => q v H8 ((e02.trans e9).trans e8) tm
    · have sq : SqL K H l [x0, x1, x2] := sq_of hl
      refine q_when (b := false) (et_eqF (ev_var rfl) ev_c rfl (str_ne (by decide))) (fun z H1 e1 => ?_) (fun z H1 e1 => ?_)
      · exact nomatch z
      have e01 := e1
      refine q_when (b := false) (et_eqF (ev_len (ev_var rfl) (ex_l e01 sq)) ev_c rfl (by simp)) (fun z H2 e2 => ?_) (fun z H2 e2 => ?_)
      · exact nomatch z
      have e02 := e01.trans e2
      refine q_when (b := true) (et_eqT (ev_len (ev_var rfl) (ex_l e02 sq)) ev_c rfl rfl) (fun z H3 e3 => ?_) (fun z H3 e3 => ?_)
      rotate_left
      · exact nomatch z
      have e03 := e02.trans e3
      refine s_make (ea_cons (ev_op (ev_var rfl) ev_c (rv_ixL (ex_l e03 sq) (i := 0) rfl)) (ea_cons (ev_op (ev_var rfl) ev_c (rv_ixL (ex_l e03 sq) (i := 1) rfl)) (ea_cons (ev_op (ev_var rfl) ev_c (rv_ixL (ex_l e03 sq) (i := 2) rfl)) ea_nil))) fun H9 e9 => greater_made hn (by simp) (by simp) (fun i y t a b => (hx i y t a b).up (e03.trans e9)) fun v H8 e8 tm => q v H8 ((e03.trans e9).trans e8) tm
    · have sq : SqL K H l [x0, x1, x2, x3] := sq_of hl
      refine q_when (b := false) (et_eqF (ev_var rfl) ev_c rfl (str_ne (by decide))) (fun z H1 e1 => ?_) (fun z H1 e1 => ?_)
      · exact nomatch z
      have e01 := e1
      refine q_when (b := false) (et_eqF (ev_len (ev_var rfl) (ex_l e01 sq)) ev_c rfl (by simp)) (fun z H2 e2 => ?_) (fun z H2 e2 => ?_)
      · exact nomatch z
      have e02 := e01.trans e2
      refine q_when (b := false) (et_eqF (ev_len (ev_var rfl) (ex_l e02 sq)) ev_c rfl (by simp)) (fun z H3 e3 => ?_) (fun z H3 e3 => ?_)
      · exact nomatch z
      have e03 := e02.trans e3
      refine q_when (b := true) (et_eqT (ev_len (ev_var rfl) (ex_l e03 sq)) ev_c rfl rfl) (fun z H4 e4 => ?_) (fun z H4 e4 => ?_)
      rotate_left
      · exact nomatch z
      have e04 := e03.trans e4
      refine s_make (ea_cons (ev_op (ev_var rfl) ev_c (rv_ixL (ex_l e04 sq) (i := 0) rfl)) (ea_cons (ev_op (ev_var rfl) ev_c (rv_ixL (ex_l e04 sq) (i := 1) rfl)) (ea_cons (ev_op (ev_var rfl) ev_c (rv_ixL (ex_l e04 sq) (i := 2) rfl)) (ea_cons (ev_op (ev_var rfl) ev_c (rv_ixL (ex_l e04 sq) (i := 3) rfl)) ea_nil)))) fun H9 e9 => greater_made hn (by simp) (by simp) (fun i y t a b => (hx i y t a b).up (e04.trans e9)) fun v H8 e8 tm => q v H8 ((e04.trans e9).trans e8) tm
    · have sq : SqL K H l [x0, x1, x2, x3, x4, x5, x6, x7] := sq_of hl
      refine q_when (b := false) (et_eqF (ev_var rfl) ev_c rfl (str_ne (by decide))) (fun z H1 e1 => ?_) (fun z H1 e1 => ?_)
      · exact nomatch z
      have e01 := e1
      refine q_when (b := false) (et_eqF (ev_len (ev_var rfl) (ex_l e01 sq)) ev_c rfl (by simp)) (fun z H2 e2 => ?_) (fun z H2 e2 => ?_)
      · exact nomatch z
      have e02 := e01.trans e2
      refine q_when (b := false) (et_eqF (ev_len (ev_var rfl) (ex_l e02 sq)) ev_c rfl (by simp)) (fun z H3 e3 => ?_) (fun z H3 e3 => ?_)
      · exact nomatch z
      have e03 := e02.trans e3
      refine q_when (b := false) (et_eqF (ev_len (ev_var rfl) (ex_l e03 sq)) ev_c rfl (by simp)) (fun z H4 e4 => ?_) (fun z H4 e4 => ?_)
      · exact nomatch z
      have e04 := e03.trans e4
      refine s_make (ea_cons (ev_op (ev_var rfl) ev_c (rv_ixL (ex_l e04 sq) (i := 0) rfl)) (ea_cons (ev_op (ev_var rfl) ev_c (rv_ixL (ex_l e04 sq) (i := 1) rfl)) (ea_cons (ev_op (ev_var rfl) ev_c (rv_ixL (ex_l e04 sq) (i := 2) rfl)) (ea_cons (ev_op (ev_var rfl) ev_c (rv_ixL (ex_l e04 sq) (i := 3) rfl)) (ea_cons (ev_op (ev_var rfl) ev_c (rv_ixL (ex_l e04 sq) (i := 4) rfl)) (ea_cons (ev_op (ev_var rfl) ev_c (rv_ixL (ex_l e04 sq) (i := 5) rfl)) (ea_cons (ev_op (ev_var rfl) ev_c (rv_ixL (ex_l e04 sq) (i := 6) rfl)) (ea_cons (ev_op (ev_var rfl) ev_c (rv_ixL (ex_l e04 sq) (i := 7) rfl)) ea_nil)))))))) fun H9 e9 => greater_made hn (by simp) (by simp) (fun i y t a b => (hx i y t a b).up (e04.trans e9)) fun v H8 e8 tm => q v H8 ((e04.trans e9).trans e8) tm
end
end K13
namespace K13
open PySem PySem.Spec PyProof.Rows L2 LG Evl
section
variable {P : Program} {w : World} {K : PySem.W.Frag} {mg : Str → Option Value} {base : Heap} {a : At}
/-! ### the package's term of the law's own one -/
def sp__law_real (a : At) (n : Nat) : Sp := fun vs H Q _ => ∃ (S : Addr → Prop) (v : V) (t : TM.Tree), vs = [v] ∧ TM.MdAt S H v t ∧ TM.Ok t ∧ t.depth < n ∧ ∀ x H', Ex H H' → TM.TmAt (csOf a) H' x t → Q x H'
theorem tm_off {H4 : Hp} {D : Addr} {acc zs : List V} {v : V} {t : TM.Tree} (h : H4 D = some (.lst acc)) (ht : TM.TmAt (csOf a) H4 v t) : TM.TmAt (csOf a) (upd H4 D (.lst zs)) v t := ht.upW h fun b o bn _ e => by rw [upd_ne bn]; exact e
/-- i parts are made -/
def WR (a : At) (ts : List TM.Tree) (H2 : Hp) (D : Addr) (i : Nat) (acc : List V) (H' : Hp) : Prop := Ex H2 H' ∧ ∀ (k : Nat) (y : V) (t : TM.Tree), acc[k]? = some y → ts[k]? = some t → TM.TmAt (csOf a) H' y t
theorem wr_step {ts : List TM.Tree} {H2 H' H4 : Hp} {D : Addr} {i : Nat} {acc : List V} {y : V} {t : TM.Tree} (w : WR a ts H2 D i acc H') (hD : H2 D = none) (hl : acc.length = i) (hx : H' D = some (.lst acc)) (e4 : Ex H' H4) (ht : ts[i]? = some t) (tm : TM.TmAt (csOf a) H4 y t) : WR a ts H2 D (i + 1) (acc ++ [y]) (upd H4 D (.lst (acc ++ [y]))) := by
  refine ⟨Ex.mut (w.1.trans e4) hD, fun k z u h1 h2 => ?_⟩
  rcases get_snoc h1 with z1 | ⟨k1, rfl⟩
  · exact tm_off (e4 _ _ hx) ((w.2 k z u z1 h2).up e4)
  · rw [k1, hl, ht] at h2
    cases h2
    exact tm_off (e4 _ _ hx) tm
theorem s_make1 {C : Addr} {sp : Sp} {E : XK} {ta : TA} {xs : List V} {D : Ends} {σ : L2.St} {H : Hp} (h : EvA ta σ H xs) (k : ∀ H1, Ex H H1 → ∀ x dx, H1 x = none → H1 dx = none → dx ≠ x → sp (V.ref x :: (xs ++ [])) (upd (upd H1 dx (.own x)) x (.ins C dx [])) (fun v H2 => v = .non ∧ D.rt (.ref x) H2) E) : tRet (tMake C sp [] E ta) D σ H := h H (Ex.refl H) _ k
theorem ok__law_real (T : Txt K mg a) (F : Files P K a) : ∀ n, Fn P w K mg base (n + 7) a._law_real (sp__law_real a n) := by
  intro n
  induction n with
  | zero =>
    refine T.d__law_real.fn sc__law_real (fun _ _ _ _ _ _ us hl => match us, hl with | [_], _ => rfl) (fun vs H Q E h => ?_) (fun cdv A outer s H vs Q E hg hr h => ?_)
    · obtain ⟨_, _, _, rfl, _⟩ := h
      rfl
    · obtain ⟨_, _, _, _, _, _, hd, _⟩ := h
      exact absurd hd (Nat.not_lt_zero _)
  | succ n ih =>
    obtain ⟨fdP, FP, bP⟩ := ok_Place_init (P := P) (w := w) (mg := mg) (base := base) T F.place F.top
    obtain ⟨fdE, FE, bE⟩ := ok_End_init (P := P) (w := w) (mg := mg) (base := base) T F.endd F.top
    have G__law_joined := ok__law_joined (P := P) (w := w) (mg := mg) (base := base) T F
    have G__law_real := ih
    refine T.d__law_real.fn sc__law_real (fun _ _ _ _ _ _ us hl => match us, hl with | [_], _ => rfl) (fun vs H Q E h => ?_) (fun cdv A outer s H vs Q E hg hr h => ?_)
    · obtain ⟨_, _, _, rfl, _⟩ := h
      rfl
    · obtain ⟨S, v, t, rfl, ht, ok, hd, q⟩ := h
      have nd := sc__law_real.nd
      refine ⟨_, (pss_cons (ps_if (pt_cmpR op_eq (pe_ix ix_tup (pv 0) pe_int (fun _ _ => rfl)) pe_str (nomark _)) (pss_one (ps_ret (pe_make T.mk_Place FP (hr.mono (by omega)) (by rfl) T.g_Place.m bP .nil passL (pa_cons (pe_ix ix_tup (pv 0) pe_int (fun _ _ => rfl)) pa_nil)))) pss_nil)
    (pss_cons (ps_if (pt_cmpR op_eq (pe_ix ix_tup (pv 0) pe_int (fun _ _ => rfl)) pe_str (nomark _)) (pss_one (ps_ret (pe_make T.mk_End FE (hr.mono (by omega)) (by rfl) T.g_End.m bE .nil passL (pa_cons (pe_ix ix_tup (pv 0) pe_int (fun _ _ => rfl)) pa_nil)))) pss_nil)
    (pss_one (ps_ret (pe_fn G__law_joined hg (hr.mono (by omega)) T.d__law_joined.kp T.d__law_joined.m (by rfl) passL (pa_cons (pe_ix ix_tup (pv 0) pe_int (fun _ _ => rfl)) (pa_cons (pe_lc rfl (own := [("part", 1)]) (g := gName 1) (by exact nd) (pi_list (pe_ix ix_tup (pv 0) pe_int (fun _ _ => rfl))) (blkOk_by (own := [("part", 1)]) (N := ["term", "part"]) (sc := defScope s__law_real) (by decide +kernel)) (fun _ _ _ _ _ => (pg_name (i := 1) nd rfl (.inl rfl))) (fun _ _ _ _ _ => pts_nil) (fun _ _ _ _ _ => (pe_fn G__law_real hg (hr.mono (by omega)) T.d__law_real.kp T.d__law_real.m (by rfl) passL (pa_cons (pv 1) pa_nil)))) pa_nil))))))), ?_⟩
      have two : ∀ {x l : Addr} {word : Str} {xs : List V} {ts : List TM.Tree} {tt : TM.Tree}, H x = some (.tup [.str word, .ref l]) → H l = some (.lst xs) → xs.length = ts.length → (∀ (i : Nat) (y : V) (t : TM.Tree), xs[i]? = some y → ts[i]? = some t → TM.MdAt S H y t) → TM.Ln ts.length → (∀ t ∈ ts, TM.Ok t) → TM.Tree.depthAll ts < n →
          (∀ z H', Ex H H' → TM.TmAt (csOf a) H' z tt → Q z H') → ((word = "lesser" ∧ tt = .lesser ts) ∨ (word = "greater" ∧ tt = .greater ts)) → ∀ H2, Ex H H2 → tRet (tFn (sp__law_joined a) E0 (tCons (tOp (rIxT K) (tVar 0) (tC (.int 0))) (tCons (tLc (iList K (tOp (rIxT K) (tVar 0) (tC (.int 1)))) (gName 1) tYes (tFn (sp__law_real a n) E0 (tCons (tVar 1) tNil)) [1]) tNil))) { nx := fun _ H' => Q .non H', rt := Q } (start ["term", "part"] [.ref x]) H2 := by
        intro x l word xs ts tt hx hl hn hxs hln hok hdp q hw H2 e2
        refine ⟨.ref x, rfl, x, _, 0, _, rfl, rfl, st_of (e2 _ _ hx), rfl, ?_⟩
        refine ⟨.ref x, rfl, x, _, 1, _, rfl, rfl, st_of (e2 _ _ hx), rfl, l, rfl, ⟨xs, sq_of (e2 _ _ hl)⟩, ?_⟩
        have h8 : ts.length ≤ 8 := hln.eight
        dsimp only
        refine lcL_inv (ys := xs) (sq_of (e2 _ _ hl)) (by omega) (fun _ => rfl) (WR a ts H2) (fun D hD => ⟨Ex.new hD, fun k y t h _ => by simp at h⟩) (fun D i acc H' hD w => sq_of (w.1 _ _ (e2 _ _ hl))) ?_ ?_
        · intro D i y acc H' hD hi hlen w hacc Q' k
          have hi2 : i < ts.length := hn ▸ (List.getElem?_eq_some_iff.mp hi).1
          have ht : ts[i]? = some ts[i] := List.getElem?_eq_getElem hi2
          have hm : ts[i] ∈ ts := List.getElem_mem hi2
          refine ⟨y, rfl, S, y, ts[i], rfl, (hxs i y _ hi ht).ex (e2.trans w.1), hok _ hm, Nat.lt_of_le_of_lt (TM.depth_mem hm) hdp, fun z H4 e4 tm => ?_⟩
          exact k z H4 (e4 _ _ hacc) (wr_step w hD hlen hacc e4 ht tm)
        · intro D acc H' hD hlen w hacc
          have hl2 : acc.length = ts.length := by omega
          refine ⟨.str word, D, acc, ts, rfl, hacc, hl2, hl2 ▸ hln, w.2, ?_⟩
          rcases hw with ⟨rfl, rfl⟩ | ⟨rfl, rfl⟩
          · exact .inl ⟨rfl, fun z H4 e4 tm => q z H4 ((e2.trans w.1).trans e4) tm⟩
          · exact .inr ⟨rfl, fun z H4 e4 tm => q z H4 ((e2.trans w.1).trans e4) tm⟩
      cases ht with
      | @place x nm s hx =>
        cases ok with
        | place hnm =>
          refine q_when (b := true) (et_eqT (ev_op (ev_var rfl) ev_c (rv_ixT (st_of hx) (i := 0) rfl)) ev_c rfl rfl) (fun _ H1 e1 => ?_) (fun z => nomatch z)
          refine s_make1 (ea_cons (ev_op (ev_var rfl) ev_c (rv_ixT (st_of (e1 _ _ hx)) (i := 1) rfl)) ea_nil) fun H2 e2 y dy hy hdy ne => ?_
          have pl : isPlB (.str nm) = true := (by decide +kernel : ∀ n ∈ TM.names, isPlB (.str n) = true) _ hnm
          exact ⟨y, dy, .str nm, _, rfl, upd_same, .str _, fun _ => ⟨rfl, q _ _ ((e1.trans e2).trans (by rw [upd_upd]; exact (Ex.new hdy).trans (Ex.new (by rw [upd_ne (Ne.symm ne)]; exact hy)))) (.place upd_same)⟩, fun z => by rw [pl] at z; cases z⟩
      | @endd x nm s hx =>
        cases ok with
        | endd hnm =>
          refine q_when (b := false) (et_eqF (ev_op (ev_var rfl) ev_c (rv_ixT (st_of hx) (i := 0) rfl)) ev_c rfl (str_ne (by decide))) (fun z => nomatch z) (fun _ H1 e1 => ?_)
          refine q_when (b := true) (et_eqT (ev_op (ev_var rfl) ev_c (rv_ixT (st_of (e1 _ _ hx)) (i := 0) rfl)) ev_c rfl rfl) (fun _ H2 e2 => ?_) (fun z => nomatch z)
          have e02 := e1.trans e2
          refine s_make1 (ea_cons (ev_op (ev_var rfl) ev_c (rv_ixT (st_of (e02 _ _ hx)) (i := 1) rfl)) ea_nil) fun H3 e3 y dy hy hdy ne => ?_
          have pl : isEndS (.str nm) = true := (by decide +kernel : ∀ n ∈ (["bottom", "top"] : List Str), isEndS (.str n) = true) _ hnm
          exact ⟨y, dy, .str nm, _, rfl, upd_same, .str _, fun _ => ⟨rfl, q _ _ ((e02.trans e3).trans (by rw [upd_upd]; exact (Ex.new hdy).trans (Ex.new (by rw [upd_ne (Ne.symm ne)]; exact hy)))) (.endd upd_same)⟩, fun z => by rw [pl] at z; cases z⟩
      | @lesser x l xs ts s hx sl hl hn hxs =>
        cases ok with
        | lesser hln hok =>
          refine q_when (b := false) (et_eqF (ev_op (ev_var rfl) ev_c (rv_ixT (st_of hx) (i := 0) rfl)) ev_c rfl (str_ne (by decide))) (fun z => nomatch z) (fun _ H1 e1 => ?_)
          refine q_when (b := false) (et_eqF (ev_op (ev_var rfl) ev_c (rv_ixT (st_of (e1 _ _ hx)) (i := 0) rfl)) ev_c rfl (str_ne (by decide))) (fun z => nomatch z) (fun _ H2 e2 => ?_)
          exact two hx hl hn hxs hln hok (Nat.lt_of_succ_lt_succ (by simpa [TM.Tree.depth] using hd)) q (.inl ⟨rfl, rfl⟩) H2 (e1.trans e2)
      | @greater x l xs ts s hx sl hl hn hxs =>
        cases ok with
        | greater hln hok =>
          refine q_when (b := false) (et_eqF (ev_op (ev_var rfl) ev_c (rv_ixT (st_of hx) (i := 0) rfl)) ev_c rfl (str_ne (by decide))) (fun z => nomatch z) (fun _ H1 e1 => ?_)
          refine q_when (b := false) (et_eqF (ev_op (ev_var rfl) ev_c (rv_ixT (st_of (e1 _ _ hx)) (i := 0) rfl)) ev_c rfl (str_ne (by decide))) (fun z => nomatch z) (fun _ H2 e2 => ?_)
          exact two hx hl hn hxs hln hok (Nat.lt_of_succ_lt_succ (by simpa [TM.Tree.depth] using hd)) q (.inr ⟨rfl, rfl⟩) H2 (e1.trans e2)
end
end K13
namespace K13
open PySem PySem.Spec PyProof.Rows L2 LG Evl
section
variable {P : Program} {w : World} {K : PySem.W.Frag} {mg : Str → Option Value} {base : Heap} {a : At}
/-! ### the law's text -/
def inner (t : TM.Tree) : Str := if t.depth > 0 then "(" ++ t.text ++ ")" else t.text
def sp__law_text (n : Nat) : Sp := fun vs H Q _ => ∃ (S : Addr → Prop) (v : V) (t : TM.Tree), vs = [v] ∧ TM.MdAt S H v t ∧ TM.Ok t ∧ t.depth < n ∧ t.depth ≤ 5 ∧ ∀ H', Ex H H' → Q (.str t.text) H'
def sp__law_inner (n : Nat) : Sp := fun vs H Q _ => ∃ (S : Addr → Prop) (v : V) (t : TM.Tree), vs = [v] ∧ TM.MdAt S H v t ∧ TM.Ok t ∧ t.depth < n ∧ t.depth ≤ 5 ∧ ∀ H', Ex H H' → Q (.str (inner t)) H'
def wordOf : TM.Tree → Str
  | .place _ => "place"
  | .endd _ => "end"
  | .lesser _ => "lesser"
  | .greater _ => "greater"
theorem md_word {S : Addr → Prop} {H : Hp} {v : V} {t : TM.Tree} (h : TM.MdAt S H v t) : ∃ x y, v = .ref x ∧ H x = some (.tup [.str (wordOf t), y]) := by
  cases h with
  | place s h => exact ⟨_, _, rfl, h⟩
  | endd s h => exact ⟨_, _, rfl, h⟩
  | lesser s h sl hl hn hx => exact ⟨_, _, rfl, h⟩
  | greater s h sl hl hn hx => exact ⟨_, _, rfl, h⟩
theorem text_len {t : TM.Tree} (ok : TM.Ok t) (hd : t.depth ≤ 5) : t.text.length ≤ 400000 ∧ t.repr.length ≤ 600000 := by
  have h := TM.len_le 5 ok hd
  omega
theorem et_in {ta : TE} {σ : L2.St} {H : Hp} {x y z : Str} {b : Bool} (ha : Ev ta σ H (.str x)) (h : inV (.str x) [.str y, .str z] = b) : EvT (tTest (tOp (rIn K false) ta (tTup (tCons (tC (.str y)) (tCons (tC (.str z)) tNil))))) σ H b :=
  et_is (et_test (ev_inU ha (eu_tup (ea_cons ev_c (ea_cons ev_c ea_nil)) (by show 2 ≤ 100000; decide)) rfl rfl)) h
theorem word_two {t : TM.Tree} : inV (.str (wordOf t)) [.str "lesser", .str "greater"] = decide (t.depth > 0) := by
  cases t with
  | place n =>
    have : ¬ (TM.Tree.place n).depth > 0 := Nat.lt_irrefl 0
    rw [decide_eq_false this]
    show inV (.str "place") [.str "lesser", .str "greater"] = false
    decide +kernel
  | endd n =>
    have : ¬ (TM.Tree.endd n).depth > 0 := Nat.lt_irrefl 0
    rw [decide_eq_false this]
    show inV (.str "end") [.str "lesser", .str "greater"] = false
    decide +kernel
  | lesser ts =>
    have : (TM.Tree.lesser ts).depth > 0 := by rw [TM.Tree.depth]; omega
    rw [decide_eq_true this]
    show inV (.str "lesser") [.str "lesser", .str "greater"] = true
    decide +kernel
  | greater ts =>
    have : (TM.Tree.greater ts).depth > 0 := by rw [TM.Tree.depth]; omega
    rw [decide_eq_true this]
    show inV (.str "greater") [.str "lesser", .str "greater"] = true
    decide +kernel
theorem ok__law_inner (T : Txt K mg a) {n k : Nat} (G__law_text : Fn P w K mg base k a._law_text (sp__law_text n)) : Fn P w K mg base (k + 1) a._law_inner (sp__law_inner n) := by
  refine T.d__law_inner.fn sc__law_inner (fun _ _ _ _ _ _ us hl => match us, hl with | [_], _ => rfl) (fun vs H Q E h => ?_) (fun cdv A outer s H vs Q E hg hr h => ?_)
  · obtain ⟨_, _, _, rfl, _⟩ := h
    rfl
  · obtain ⟨S, v, t, rfl, ht, ok, hd, h5, q⟩ := h
    refine ⟨_, (pss_one (ps_ret (pe_ifExp (pt_cmpR op_in_seq (pe_ix ix_tup (pv 0) pe_int (fun _ _ => rfl)) (pe_tup (pa_cons pe_str (pa_cons pe_str pa_nil))) (by rfl)) (pe_op op_add_str (pe_op op_add_str pe_str (pe_fn G__law_text hg hr T.d__law_text.kp T.d__law_text.m (by rfl) passL (pa_cons (pv 0) pa_nil))) pe_str) (pe_fn G__law_text hg hr T.d__law_text.kp T.d__law_text.m (by rfl) passL (pa_cons (pv 0) pa_nil))))), ?_⟩
    obtain ⟨x, y, rfl, hx⟩ := md_word ht
    have tx : ∀ H1, Ex H H1 → Ev (tFn (sp__law_text n) E0 (tCons (tVar 0) tNil)) (start ["term"] [.ref x]) H1 (.str t.text) := fun H1 e1 => ev_fn (ea_cons (ev_var rfl) ea_nil) fun H2 e2 Q q E => ⟨S, .ref x, t, rfl, ht.ex (e1.trans e2), ok, hd, h5, fun H3 e3 => q H3 e3⟩
    have tl := (text_len ok h5).1
    have c1 : ("(" : Str).length = 1 := by decide
    have c2 : (")" : Str).length = 1 := by decide
    refine s_ret (ev_if (et_in (ev_op (ev_var rfl) ev_c (rv_ixT (st_of hx) (i := 0) rfl)) word_two) (fun z => ?_) (fun z => ?_)) fun H1 e1 => q H1 e1
    · unfold inner
      rw [if_pos (of_decide_eq_true z)]
      exact ev_addS (ev_addS ev_c (tx H (Ex.refl H)) (by omega)) ev_c (by rw [PySem.Str.length_append]; omega)
    · unfold inner
      rw [if_neg (of_decide_eq_false z)]
      exact tx H (Ex.refl H)
theorem innerAll_get {ts : List TM.Tree} {i : Nat} {s : Str} (h : (TM.Tree.innerAll ts)[i]? = some s) : ∃ t, ts[i]? = some t ∧ s = inner t := by
  have hi : i < ts.length := by
    have := (List.getElem?_eq_some_iff.mp h).1
    rwa [innerAll_len] at this
  refine ⟨ts[i], List.getElem?_eq_getElem hi, ?_⟩
  have := innerAll_at (List.getElem?_eq_getElem hi)
  rw [h] at this
  exact Option.some.inj this
theorem ok__law_text (T : Txt K mg a) : ∀ n, Fn P w K mg base (2 * n + 1) a._law_text (sp__law_text n) := by
  intro n
  induction n with
  | zero =>
    refine T.d__law_text.fn sc__law_text (fun _ _ _ _ _ _ us hl => match us, hl with | [_], _ => rfl) (fun vs H Q E h => ?_) (fun cdv A outer s H vs Q E hg hr h => ?_)
    · obtain ⟨_, _, _, rfl, _⟩ := h
      rfl
    · obtain ⟨_, _, _, _, _, _, hd, _⟩ := h
      exact absurd hd (Nat.not_lt_zero _)
  | succ n ih =>
    have G__law_inner := ok__law_inner T ih
    refine T.d__law_text.fn sc__law_text (fun _ _ _ _ _ _ us hl => match us, hl with | [_], _ => rfl) (fun vs H Q E h => ?_) (fun cdv A outer s H vs Q E hg hr h => ?_)
    · obtain ⟨_, _, _, rfl, _⟩ := h
      rfl
    · obtain ⟨S, v, t, rfl, ht, ok, hd, h5, q⟩ := h
      have nd := sc__law_text.nd
      refine ⟨_, (pss_cons (ps_if (pt_cmpR op_in_seq (pe_ix ix_tup (pv 0) pe_int (fun _ _ => rfl)) (pe_tup (pa_cons pe_str (pa_cons pe_str pa_nil))) (by rfl)) (pss_one (ps_ret (pe_ix ix_tup (pv 0) pe_int (fun _ _ => rfl)))) pss_nil)
    (pss_one (ps_ret (pe_join (pe_dget (hu_of hr) (pe_disp (pps_cons pe_str pe_str (pps_cons pe_str pe_str pps_nil)) (by rfl) (by rfl) (fun z => by cases z) (by decide)) (pe_ix ix_tup (pv 0) pe_int (fun _ _ => rfl)) (fun _ _ => rfl)) (pe_lc rfl (own := [("part", 1)]) (g := gName 1) (by exact nd) (pi_list (pe_ix ix_tup (pv 0) pe_int (fun _ _ => rfl))) (blkOk_by (own := [("part", 1)]) (N := ["term", "part"]) (sc := defScope s__law_text) (by decide +kernel)) (fun _ _ _ _ _ => (pg_name (i := 1) nd rfl (.inl rfl))) (fun _ _ _ _ _ => pts_nil) (fun _ _ _ _ _ => (pe_fn G__law_inner hg (hr.mono (by omega)) T.d__law_inner.kp T.d__law_inner.m (by rfl) passL (pa_cons (pv 1) pa_nil)))))))), ?_⟩
      have two : ∀ {x l : Addr} {word : Str} {xs : List V} {ts : List TM.Tree}, H x = some (.tup [.str word, .ref l]) → H l = some (.lst xs) → xs.length = ts.length → (∀ (i : Nat) (y : V) (t : TM.Tree), xs[i]? = some y → ts[i]? = some t → TM.MdAt S H y t) → ts.length ≤ 8 → (∀ t ∈ ts, TM.Ok t) → TM.Tree.depthAll ts < n → TM.Tree.depthAll ts ≤ 4 →
          ∀ H1, Ex H H1 → EvL (tLc (iList K (tOp (rIxT K) (tVar 0) (tC (.int 1)))) (gName 1) tYes (tFn (sp__law_inner n) E0 (tCons (tVar 1) tNil)) [1]) (start ["term", "part"] [.ref x]) H1 ((TM.Tree.innerAll ts).map V.str) := by
        intro x l word xs ts hx hl hn hxs h8 hok hdp h4 H1 e1
        refine el_lmap (ev_op (ev_var rfl) ev_c (rv_ixT (st_of (e1 _ _ hx)) (i := 1) rfl)) (sq_of (e1 _ _ hl)) (by omega) (by rw [List.length_map, innerAll_len]; exact hn) (fun _ => rfl) (fun i y z H2 e2 hi hz => ?_)
        rw [List.getElem?_map] at hz
        obtain ⟨s, hs, rfl⟩ := Option.map_eq_some_iff.mp hz
        obtain ⟨u, hu, rfl⟩ := innerAll_get hs
        have hm : u ∈ ts := List.mem_of_getElem? hu
        exact ev_fn (ea_cons (ev_var rfl) ea_nil) fun H3 e3 Q q E => ⟨S, y, u, rfl, (hxs i y u hi hu).ex ((e1.trans e2).trans e3), hok u hm, Nat.lt_of_le_of_lt (TM.depth_mem hm) hdp, Nat.le_trans (TM.depth_mem hm) (by omega), fun H4 e4 => q H4 e4⟩
      have sums : ∀ {ts : List TM.Tree}, ts.length ≤ 8 → (∀ t ∈ ts, TM.Ok t) → TM.Tree.depthAll ts ≤ 4 → ((TM.Tree.innerAll ts).map (·.length)).sum + (TM.Tree.innerAll ts).length * 3 ≤ 16777216 := fun {ts} h8 hok h4 => by
        have := (TM.sums h8 (M := 600000) (N := 400000) fun t ht => (text_len (hok t ht) (Nat.le_trans (TM.depth_mem ht) (by omega))).symm).2
        rw [innerAll_len]
        omega
      cases ht with
      | @place x nm s hx =>
        refine q_when (b := true) (et_in (ev_op (ev_var rfl) ev_c (rv_ixT (st_of hx) (i := 0) rfl)) (by decide +kernel)) (fun _ H1 e1 => ?_) (fun z => nomatch z)
        exact s_ret (ev_op (ev_var rfl) ev_c (rv_ixT (st_of (e1 _ _ hx)) (i := 1) rfl)) fun H2 e2 => q H2 (e1.trans e2)
      | @endd x nm s hx =>
        refine q_when (b := true) (et_in (ev_op (ev_var rfl) ev_c (rv_ixT (st_of hx) (i := 0) rfl)) (by decide +kernel)) (fun _ H1 e1 => ?_) (fun z => nomatch z)
        exact s_ret (ev_op (ev_var rfl) ev_c (rv_ixT (st_of (e1 _ _ hx)) (i := 1) rfl)) fun H2 e2 => q H2 (e1.trans e2)
      | @lesser x l xs ts s hx sl hl hn hxs =>
        cases ok with
        | lesser hln hok =>
          have d1 : TM.Tree.depthAll ts < n := Nat.lt_of_succ_lt_succ (by simpa [TM.Tree.depth] using hd)
          have d2 : TM.Tree.depthAll ts ≤ 4 := Nat.le_of_succ_le_succ (by simpa [TM.Tree.depth] using h5)
          refine q_when (b := false) (et_in (ev_op (ev_var rfl) ev_c (rv_ixT (st_of hx) (i := 0) rfl)) (by decide +kernel)) (fun z => nomatch z) (fun _ H1 e1 => ?_)
          refine s_ret (ev_joinG (sep := " & ") (ev_dget (kvs := [("lesser", " & "), ("greater", " | ")]) (k := "lesser") (by decide) (ev_op (ev_var rfl) ev_c (rv_ixT (st_of (e1 _ _ hx)) (i := 0) rfl)) (by decide +kernel)) (two hx hl hn hxs hln.eight hok d1 d2 H1 e1) ?_) fun H2 e2 => ?_
          · exact sums hln.eight hok d2
          · have := q H2 (e1.trans e2)
            rw [TM.Tree.text] at this
            exact this
      | @greater x l xs ts s hx sl hl hn hxs =>
        cases ok with
        | greater hln hok =>
          have d1 : TM.Tree.depthAll ts < n := Nat.lt_of_succ_lt_succ (by simpa [TM.Tree.depth] using hd)
          have d2 : TM.Tree.depthAll ts ≤ 4 := Nat.le_of_succ_le_succ (by simpa [TM.Tree.depth] using h5)
          refine q_when (b := false) (et_in (ev_op (ev_var rfl) ev_c (rv_ixT (st_of hx) (i := 0) rfl)) (by decide +kernel)) (fun z => nomatch z) (fun _ H1 e1 => ?_)
          refine s_ret (ev_joinG (sep := " | ") (ev_dget (kvs := [("lesser", " & "), ("greater", " | ")]) (k := "greater") (by decide) (ev_op (ev_var rfl) ev_c (rv_ixT (st_of (e1 _ _ hx)) (i := 0) rfl)) (by decide +kernel)) (two hx hl hn hxs hln.eight hok d1 d2 H1 e1) ?_) fun H2 e2 => ?_
          · exact sums hln.eight hok d2
          · have := q H2 (e1.trans e2)
            rw [TM.Tree.text] at this
            exact this
end
end K13
namespace K13
open PySem PySem.Spec PyProof.Rows L2 LG Evl
section
variable {P : Program} {w : World} {K : PySem.W.Frag} {mg : Str → Option Value} {base : Heap} {a : At}
/-! ### the law's representation -/
def sp__law_written (n : Nat) : Sp := fun vs H Q _ => ∃ (S : Addr → Prop) (v : V) (t : TM.Tree), vs = [v] ∧ TM.MdAt S H v t ∧ TM.Ok t ∧ t.depth < n ∧ t.depth ≤ 5 ∧ ∀ H', Ex H H' → Q (.str t.repr) H'
def classOf : TM.Tree → Str
  | .place _ => "Place"
  | .endd _ => "End"
  | .lesser _ => "Lesser"
  | .greater _ => "Greater"
theorem reprAll_get {ts : List TM.Tree} {i : Nat} {s : Str} (h : (TM.Tree.reprAll ts)[i]? = some s) : ∃ t, ts[i]? = some t ∧ s = t.repr := by
  have hi : i < ts.length := by
    have := (List.getElem?_eq_some_iff.mp h).1
    rwa [reprAll_len] at this
  refine ⟨ts[i], List.getElem?_eq_getElem hi, ?_⟩
  have := reprAll_at (List.getElem?_eq_getElem hi)
  rw [h] at this
  exact Option.some.inj this
theorem class_at (t : TM.Tree) : valV (mergeK [] (kvV [("place", "Place"), ("end", "End"), ("lesser", "Lesser"), ("greater", "Greater")])) (Sum.inr (wordOf t)) = some (.str (classOf t)) := by
  cases t with
  | place _ => show valV (mergeK [] (kvV [("place", "Place"), ("end", "End"), ("lesser", "Lesser"), ("greater", "Greater")])) (Sum.inr "place") = some (.str "Place"); decide +kernel
  | endd _ => show valV (mergeK [] (kvV [("place", "Place"), ("end", "End"), ("lesser", "Lesser"), ("greater", "Greater")])) (Sum.inr "end") = some (.str "End"); decide +kernel
  | lesser _ => show valV (mergeK [] (kvV [("place", "Place"), ("end", "End"), ("lesser", "Lesser"), ("greater", "Greater")])) (Sum.inr "lesser") = some (.str "Lesser"); decide +kernel
  | greater _ => show valV (mergeK [] (kvV [("place", "Place"), ("end", "End"), ("lesser", "Lesser"), ("greater", "Greater")])) (Sum.inr "greater") = some (.str "Greater"); decide +kernel
theorem ok__law_written (T : Txt K mg a) : ∀ n, Fn P w K mg base (n + 1) a._law_written (sp__law_written n) := by
  intro n
  induction n with
  | zero =>
    refine T.d__law_written.fn sc__law_written (fun _ _ _ _ _ _ us hl => match us, hl with | [_], _ => rfl) (fun vs H Q E h => ?_) (fun cdv A outer s H vs Q E hg hr h => ?_)
    · obtain ⟨_, _, _, rfl, _⟩ := h
      rfl
    · obtain ⟨_, _, _, _, _, _, hd, _⟩ := h
      exact absurd hd (Nat.not_lt_zero _)
  | succ n ih =>
    have G__law_written := ih
    refine T.d__law_written.fn sc__law_written (fun _ _ _ _ _ _ us hl => match us, hl with | [_], _ => rfl) (fun vs H Q E h => ?_) (fun cdv A outer s H vs Q E hg hr h => ?_)
    · obtain ⟨_, _, _, rfl, _⟩ := h
      rfl
    · obtain ⟨S, v, t, rfl, ht, ok, hd, h5, q⟩ := h
      have nd := sc__law_written.nd
      refine ⟨_, (pss_cons (ps_set (i := 1) nd rfl (.inl rfl) (pe_dget (hu_of hr) (pe_disp (pps_cons pe_str pe_str (pps_cons pe_str pe_str (pps_cons pe_str pe_str (pps_cons pe_str pe_str pps_nil)))) (by rfl) (by rfl) (fun z => by cases z) (by decide)) (pe_ix ix_tup (pv 0) pe_int (fun _ _ => rfl)) (fun _ _ => rfl)))
    (pss_cons (ps_if (pt_cmpR op_in_seq (pe_ix ix_tup (pv 0) pe_int (fun _ _ => rfl)) (pe_tup (pa_cons pe_str (pa_cons pe_str pa_nil))) (by rfl)) (pss_one (ps_ret (pe_op op_add_str (pe_op op_add_str (pe_op op_add_str (pv 1) pe_str) (pe_ix ix_tup (pv 0) pe_int (fun _ _ => rfl))) pe_str))) pss_nil)
    (pss_one (ps_ret (pe_op op_add_str (pe_op op_add_str (pe_op op_add_str (pv 1) pe_str) (pe_join pe_str (pe_lc rfl (own := [("part", 2)]) (g := gName 2) (by exact nd) (pi_list (pe_ix ix_tup (pv 0) pe_int (fun _ _ => rfl))) (blkOk_by (own := [("part", 2)]) (N := ["term", "word", "part"]) (sc := defScope s__law_written) (by decide +kernel)) (fun _ _ _ _ _ => (pg_name (i := 2) nd rfl (.inl rfl))) (fun _ _ _ _ _ => pts_nil) (fun _ _ _ _ _ => (pe_fn G__law_written hg (hr.mono (by omega)) T.d__law_written.kp T.d__law_written.m (by rfl) passL (pa_cons (pv 2) pa_nil)))))) pe_str))))), ?_⟩
      obtain ⟨x0, y0, rfl, hx0⟩ := md_word ht
      refine q_asg (ev_dget (kvs := [("place", "Place"), ("end", "End"), ("lesser", "Lesser"), ("greater", "Greater")]) (k := wordOf t) (v := classOf t) (by decide) (ev_op (ev_var rfl) ev_c (rv_ixT (st_of hx0) (i := 0) rfl)) (class_at t)) fun H1 e1 => ?_
      have two : ∀ {x l : Addr} {word cls : Str} {xs : List V} {ts : List TM.Tree}, H x = some (.tup [.str word, .ref l]) → H l = some (.lst xs) → xs.length = ts.length → (∀ (i : Nat) (y : V) (t : TM.Tree), xs[i]? = some y → ts[i]? = some t → TM.MdAt S H y t) → ts.length ≤ 8 → (∀ t ∈ ts, TM.Ok t) → TM.Tree.depthAll ts < n → TM.Tree.depthAll ts ≤ 4 →
          ∀ H1, Ex H H1 → EvL (tLc (iList K (tOp (rIxT K) (tVar 0) (tC (.int 1)))) (gName 2) tYes (tFn (sp__law_written n) E0 (tCons (tVar 2) tNil)) [2]) [some (.ref x), some (.str cls), none] H1 ((TM.Tree.reprAll ts).map V.str) := by
        intro x l word cls xs ts hx hl hn hxs h8 hok hdp h4 H1 e1
        refine el_lmap (ev_op (ev_var rfl) ev_c (rv_ixT (st_of (e1 _ _ hx)) (i := 1) rfl)) (sq_of (e1 _ _ hl)) (by omega) (by rw [List.length_map, reprAll_len]; exact hn) (fun _ => rfl) (fun i y z H2 e2 hi hz => ?_)
        rw [List.getElem?_map] at hz
        obtain ⟨s, hs, rfl⟩ := Option.map_eq_some_iff.mp hz
        obtain ⟨u, hu, rfl⟩ := reprAll_get hs
        have hm : u ∈ ts := List.mem_of_getElem? hu
        exact ev_fn (ea_cons (ev_var rfl) ea_nil) fun H3 e3 Q q E => ⟨S, y, u, rfl, (hxs i y u hi hu).ex ((e1.trans e2).trans e3), hok u hm, Nat.lt_of_le_of_lt (TM.depth_mem hm) hdp, Nat.le_trans (TM.depth_mem hm) (by omega), fun H4 e4 => q H4 e4⟩
      have sums : ∀ {ts : List TM.Tree}, ts.length ≤ 8 → (∀ t ∈ ts, TM.Ok t) → TM.Tree.depthAll ts ≤ 4 → ((TM.Tree.reprAll ts).map (·.length)).sum + (TM.Tree.reprAll ts).length * 2 ≤ 16777216 ∧ (TM.joinS ", " (TM.Tree.reprAll ts)).length ≤ 600000 := fun {ts} h8 hok h4 => by
        have h := fun t ht => TM.len_le 4 (hok t ht) (Nat.le_trans (TM.depth_mem ht) h4)
        have h1 := (TM.sums h8 (M := 70000) (N := 50000) fun t ht => by have := h t ht; omega).1
        have h2 := (TM.joins h8 (M := 70000) (N := 50000) fun t ht => by have := h t ht; omega).1
        rw [reprAll_len]
        omega
      have n2 : ∀ n ∈ TM.names, n.length = 2 ∧ "Place" ++ "('" ++ n ++ "')" = TM.Tree.repr (.place n) := by decide +kernel
      have n3 : ∀ n ∈ (["bottom", "top"] : List Str), n.length ≤ 6 ∧ "End" ++ "('" ++ n ++ "')" = TM.Tree.repr (.endd n) := by decide +kernel
      have c0 : ("Place" : Str).length = 5 := by decide
      have c1 : ("End" : Str).length = 3 := by decide
      have c2 : ("Lesser" : Str).length = 6 := by decide
      have c3 : ("Greater" : Str).length = 7 := by decide
      have c4 : ("('" : Str).length = 2 := by decide
      have c5 : ("')" : Str).length = 2 := by decide
      have c6 : ("(" : Str).length = 1 := by decide
      have c7 : (")" : Str).length = 1 := by decide
      cases ht with
      | @place x nm s hx =>
        cases ok with
        | place hnm =>
          have z := n2 nm hnm
          refine q_when (b := true) (et_in (ev_op (ev_var rfl) ev_c (rv_ixT (st_of (e1 _ _ hx)) (i := 0) rfl)) (by decide +kernel)) (fun _ H2 e2 => ?_) (fun z => nomatch z)
          refine s_ret (ev_addS (ev_addS (ev_addS (x := "Place") (ev_var rfl) ev_c (by omega)) (ev_op (ev_var rfl) ev_c (rv_ixT (st_of ((e1.trans e2) _ _ hx)) (i := 1) rfl)) (by rw [PySem.Str.length_append]; omega)) ev_c (by rw [len3]; omega)) fun H3 e3 => ?_
          have := q H3 ((e1.trans e2).trans e3)
          rw [← z.2] at this
          exact this
      | @endd x nm s hx =>
        cases ok with
        | endd hnm =>
          have z := n3 nm hnm
          refine q_when (b := true) (et_in (ev_op (ev_var rfl) ev_c (rv_ixT (st_of (e1 _ _ hx)) (i := 0) rfl)) (by decide +kernel)) (fun _ H2 e2 => ?_) (fun z => nomatch z)
          refine s_ret (ev_addS (ev_addS (ev_addS (x := "End") (ev_var rfl) ev_c (by omega)) (ev_op (ev_var rfl) ev_c (rv_ixT (st_of ((e1.trans e2) _ _ hx)) (i := 1) rfl)) (by rw [PySem.Str.length_append]; omega)) ev_c (by rw [len3]; omega)) fun H3 e3 => ?_
          have := q H3 ((e1.trans e2).trans e3)
          rw [← z.2] at this
          exact this
      | @lesser x l xs ts s hx sl hl hn hxs =>
        cases ok with
        | lesser hln hok =>
          have d1 : TM.Tree.depthAll ts < n := Nat.lt_of_succ_lt_succ (by simpa [TM.Tree.depth] using hd)
          have d2 : TM.Tree.depthAll ts ≤ 4 := Nat.le_of_succ_le_succ (by simpa [TM.Tree.depth] using h5)
          have z := sums hln.eight hok d2
          refine q_when (b := false) (et_in (ev_op (ev_var rfl) ev_c (rv_ixT (st_of (e1 _ _ hx)) (i := 0) rfl)) (by decide +kernel)) (fun z => nomatch z) (fun _ H2 e2 => ?_)
          refine s_ret (ev_addS (ev_addS (ev_addS (x := "Lesser") (ev_var rfl) ev_c (by omega)) (ev_join (two hx hl hn hxs hln.eight hok d1 d2 H2 (e1.trans e2)) z.1) (by rw [PySem.Str.length_append]; omega)) ev_c (by rw [len3]; omega)) fun H3 e3 => ?_
          have := q H3 ((e1.trans e2).trans e3)
          rw [TM.Tree.repr] at this
          rw [(by decide : ("Lesser" : Str) ++ "(" = "Lesser(")]
          exact this
      | @greater x l xs ts s hx sl hl hn hxs =>
        cases ok with
        | greater hln hok =>
          have d1 : TM.Tree.depthAll ts < n := Nat.lt_of_succ_lt_succ (by simpa [TM.Tree.depth] using hd)
          have d2 : TM.Tree.depthAll ts ≤ 4 := Nat.le_of_succ_le_succ (by simpa [TM.Tree.depth] using h5)
          have z := sums hln.eight hok d2
          refine q_when (b := false) (et_in (ev_op (ev_var rfl) ev_c (rv_ixT (st_of (e1 _ _ hx)) (i := 0) rfl)) (by decide +kernel)) (fun z => nomatch z) (fun _ H2 e2 => ?_)
          refine s_ret (ev_addS (ev_addS (ev_addS (x := "Greater") (ev_var rfl) ev_c (by omega)) (ev_join (two hx hl hn hxs hln.eight hok d1 d2 H2 (e1.trans e2)) z.1) (by rw [PySem.Str.length_append]; omega)) ev_c (by rw [len3]; omega)) fun H3 e3 => ?_
          have := q H3 ((e1.trans e2).trans e3)
          rw [TM.Tree.repr] at this
          rw [(by decide : ("Greater" : Str) ++ "(" = "Greater(")]
          exact this
end
end K13
namespace K13
open PySem PySem.Spec PyProof.Rows L2 LG Evl
section
variable {P : Program} {w : World} {K : PySem.W.Frag} {mg : Str → Option Value} {base : Heap} {a : At}
/-! ### a term with one thing changed -/
theorem md_two {S : Addr → Prop} {H : Hp} {q r : Addr} {ys : List V} {us : List TM.Tree} {word : V} {m : Nat} (hw : Words word) (Sq : S q) (Sr : S r) (hq : H q = some (.tup [word, .ref r])) (hr : H r = some (.lst ys)) (hx : A2 (TM.MdAt S H) ys us) (ln : TM.Ln us.length) (ok : ∀ u ∈ us, TM.Ok u ∧ u.depth ≤ m) :
    ∃ t, TM.Ok t ∧ t.depth ≤ m + 1 ∧ TM.MdAt S H (.ref q) t := by
  have hd : TM.Tree.depthAll us ≤ m := depthAll_le fun u hu => (ok u hu).2
  rcases hw with rfl | rfl
  · exact ⟨.lesser us, .lesser ln fun u hu => (ok u hu).1, by rw [TM.Tree.depth]; omega, .lesser Sq hq Sr hr hx.len hx.get⟩
  · exact ⟨.greater us, .greater ln fun u hu => (ok u hu).1, by rw [TM.Tree.depth]; omega, .greater Sq hq Sr hr hx.len hx.get⟩
def sp__law_bent (n : Nat) : Sp := fun vs H Q _ => ∃ (p l : Addr) (S : Addr → Prop) (v : V) (t : TM.Tree) (xs : List V), vs = [.ref p, v, .ref l] ∧ Po p H ∧ TM.MdAt S H v t ∧ (∀ b, S b → H b ≠ none ∧ b ≠ p) ∧ TM.Ok t ∧ t.depth < n ∧ H l = some (.lst xs) ∧ l ≠ p ∧ 0 < xs.length ∧ xs.length ≤ 5 ∧ (∀ x ∈ xs, Nm x) ∧
  ∀ v' t' H', TM.Ok t' → t'.depth ≤ t.depth + 1 → TM.MdAt (fun b => S b ∨ H b = none) H' v' t' → Px p H H' → Q v' H'
theorem md_parts {S : Addr → Prop} {H : Hp} {v : V} {t : TM.Tree} (h : TM.MdAt S H v t) (ok : TM.Ok t) (h0 : t.depth ≠ 0) : ∃ x l xs ts word, v = .ref x ∧ S x ∧ H x = some (.tup [.str word, .ref l]) ∧ S l ∧ H l = some (.lst xs) ∧ A2 (TM.MdAt S H) xs ts ∧ TM.Ln ts.length ∧ (∀ u ∈ ts, TM.Ok u) ∧ t.depth = TM.Tree.depthAll ts + 1 ∧ (word = "lesser" ∨ word = "greater") := by
  cases h with
  | place s h => exact absurd rfl h0
  | endd s h => exact absurd rfl h0
  | lesser s h sl hl hn hx =>
    cases ok with
    | lesser ln ho => exact ⟨_, _, _, _, _, rfl, s, h, sl, hl, .of hn hx, ln, ho, by rw [TM.Tree.depth], .inl rfl⟩
  | greater s h sl hl hn hx =>
    cases ok with
    | greater ln ho => exact ⟨_, _, _, _, _, rfl, s, h, sl, hl, .of hn hx, ln, ho, by rw [TM.Tree.depth], .inr rfl⟩
theorem words_of {w : Str} (h : w = "lesser" ∨ w = "greater") : Words (.str w) ∧ w ≠ "place" ∧ w ≠ "end" ∧ ∃ w2 : Str, valV (mergeK [] (kvV [("lesser", "greater"), ("greater", "lesser")])) (Sum.inr w) = some (.str w2) ∧ Words (.str w2) := by
  rcases h with rfl | rfl
  · exact ⟨.inl rfl, by decide, by decide, "greater", by decide +kernel, .inr rfl⟩
  · exact ⟨.inr rfl, by decide, by decide, "lesser", by decide +kernel, .inl rfl⟩
set_option maxHeartbeats 20000000 in
theorem ok__law_bent (T : Txt K mg a) : ∀ n, Fn P w K mg base (n + 2) a._law_bent (sp__law_bent n) := by
  intro n
  induction n with
  | zero =>
    refine T.d__law_bent.fn sc__law_bent (fun _ _ _ _ _ _ us hl => match us, hl with | [_, _, _], _ => rfl) (fun vs H Q E h => ?_) (fun cdv A outer s H vs Q E hg hr h => ?_)
    · obtain ⟨_, _, _, _, _, _, rfl, _⟩ := h
      rfl
    · obtain ⟨_, _, _, _, _, _, _, _, _, _, _, hd, _⟩ := h
      exact absurd hd (Nat.not_lt_zero _)
  | succ n ih =>
    have G__law_draw : Fn P w K mg base 1 a._law_draw sp__law_draw := ok__law_draw T
    have G__law_pick : Fn P w K mg base 2 a._law_pick sp__law_pick := ok__law_pick T
    have G__law_bent := ih
    refine T.d__law_bent.fn sc__law_bent (fun _ _ _ _ _ _ us hl => match us, hl with | [_, _, _], _ => rfl) (fun vs H Q E h => ?_) (fun cdv A outer s H vs Q E hg hr h => ?_)
    · obtain ⟨_, _, _, _, _, _, rfl, _⟩ := h
      rfl
    · obtain ⟨p, l, S, v, t, pls, rfl, hp, ht, hS, ok, hd, hl, lp, h0, h5, hn, q⟩ := h
      have nd := sc__law_bent.nd
      refine ⟨_, (pss_cons (ps_if (pt_cmpR op_eq (pe_ix ix_tup (pv 1) pe_int (fun _ _ => rfl)) pe_str (nomark _)) (pss_one (ps_ret (pe_fn G__law_pick hg (hr.mono (by omega)) T.d__law_pick.kp T.d__law_pick.m (by rfl) passL (pa_cons (pv 0) (pa_cons (pe_lst (pa_cons (pe_tup (pa_cons pe_str (pa_cons (pe_fn G__law_pick hg (hr.mono (by omega)) T.d__law_pick.kp T.d__law_pick.m (by rfl) passL (pa_cons (pv 0) (pa_cons (pv 2) pa_nil))) pa_nil))) (pa_cons (pe_tup (pa_cons pe_str (pa_cons pe_str pa_nil))) (pa_cons (pe_tup (pa_cons pe_str (pa_cons (pe_lst (pa_cons (pv 1) (pa_cons (pv 1) pa_nil))) pa_nil))) (pa_cons (pv 1) pa_nil))))) pa_nil))))) pss_nil)
    (pss_cons (ps_if (pt_cmpR op_eq (pe_ix ix_tup (pv 1) pe_int (fun _ _ => rfl)) pe_str (nomark _)) (pss_one (ps_ret (pe_tup (pa_cons pe_str (pa_cons (pe_dget (hu_of hr) (pe_disp (pps_cons pe_str pe_str (pps_cons pe_str pe_str pps_nil)) (by rfl) (by rfl) (fun z => by cases z) (by decide)) (pe_ix ix_tup (pv 1) pe_int (fun _ _ => rfl)) (fun _ _ => rfl)) pa_nil))))) pss_nil)
    (pss_cons (ps_par3 (i := 3) (j := 4) (l := 5) rfl nd rfl rfl rfl (by decide) (by decide) (by decide) rfl rfl rfl (pa_cons (pe_fn G__law_draw hg (hr.mono (by omega)) T.d__law_draw.kp T.d__law_draw.m (by rfl) passL (pa_cons (pv 0) (pa_cons pe_int pa_nil))) (pa_cons (pe_fn G__law_draw hg (hr.mono (by omega)) T.d__law_draw.kp T.d__law_draw.m (by rfl) passL (pa_cons (pv 0) (pa_cons (pe_callB call_len_seq (by rfl) T.z_len (by decide +kernel) (pa_cons (pe_ix ix_tup (pv 1) pe_int (fun _ _ => rfl)) pa_nil)) pa_nil))) (pa_cons (pe_callTy call_list_of (by rfl) T.z_list (by decide +kernel) (pa_cons (pe_ix ix_tup (pv 1) pe_int (fun _ _ => rfl)) pa_nil)) pa_nil))) rfl)
    (pss_cons (ps_if (pt_cmpR op_lt (pv 3) pe_int (nomark _)) (pss_cons (ps_asg (pe_fn G__law_bent hg (hr.mono (by omega)) T.d__law_bent.kp T.d__law_bent.m (by rfl) passL (pa_cons (pv 0) (pa_cons (pe_ix ix_list (pv 5) (pv 4) (fun _ _ => rfl)) (pa_cons (pv 2) pa_nil)))) (pg_sub (pv 5) (pv 4) set_list))
      (pss_one (ps_ret (pe_tup (pa_cons (pe_ix ix_tup (pv 1) pe_int (fun _ _ => rfl)) (pa_cons (pv 5) pa_nil)))))) pss_nil)
    (pss_cons (ps_if (pt_cmpR op_eq (pv 3) pe_int (nomark _)) (pss_one (ps_ret (pe_tup (pa_cons (pe_dget (hu_of hr) (pe_disp (pps_cons pe_str pe_str (pps_cons pe_str pe_str pps_nil)) (by rfl) (by rfl) (fun z => by cases z) (by decide)) (pe_ix ix_tup (pv 1) pe_int (fun _ _ => rfl)) (fun _ _ => rfl)) (pa_cons (pv 5) pa_nil))))) pss_nil)
    (pss_cons (ps_if (PW.pt (pw_and (pt_cmpR op_eq (pv 3) pe_int (nomark _)) (pw_and1 (pt_cmpR op_lt (pe_callB call_len_seq (by rfl) T.z_len (by decide +kernel) (pa_cons (pv 5) pa_nil)) pe_int (nomark _))))) (pss_one (ps_ret (pe_tup (pa_cons (pe_ix ix_tup (pv 1) pe_int (fun _ _ => rfl)) (pa_cons (pe_op op_cat (pe_op op_cat (pe_slice sl_list (pv 5) po_none (po_some (pv 4))) (pe_lst (pa_cons (pe_ix ix_list (pv 5) (pv 4) (fun _ _ => rfl)) pa_nil))) (pe_slice sl_list (pv 5) (po_some (pv 4)) po_none)) pa_nil))))) pss_nil)
    (pss_one (ps_ret (pe_tup (pa_cons (pe_ix ix_tup (pv 1) pe_int (fun _ _ => rfl)) (pa_cons (pe_revL (pv 5)) pa_nil))))))))))), ?_⟩
      have x0 : Px p H H := Px.refl hp
      have up : ∀ {H' : Hp} {u : V} {z : TM.Tree}, Px p H H' → TM.MdAt S H u z → TM.MdAt (fun b => S b ∨ H b = none) H' u z := fun x h => h.up (fun b s => .inl s) fun b o s e => x.1 b o (hS b s).2 e
      by_cases hd0 : t.depth = 0
      · clear ih
        cases ht with
        | @place x nm s hx =>
          cases ok with
          | place hnm =>
            refine q_when (b := true) (et_eqT (ev_op (ev_var rfl) ev_c (rv_ixT (st_of hx) (i := 0) rfl)) ev_c rfl rfl) (fun _ H1 e1 => ?_) (fun z => nomatch z)
            have x1 := x0.ex e1
            refine ⟨.ref p, rfl, .ref p, rfl, .ref l, rfl, p, l, pls, rfl, x1.2, e1 _ _ hl, lp, h0, by omega, fun y hy H2 x2 => ⟨(by decide : 2 ≤ sizeLine), fun q1 hq1 => ⟨(by decide : 2 ≤ sizeLine), fun q2 hq2 => ⟨.ref x, rfl, .ref x, rfl, (by decide : 2 ≤ sizeLine), fun q3 hq3 => ⟨(by decide : 2 ≤ sizeLine), fun q4 hq4 => ⟨.ref x, rfl, (by decide : 4 ≤ sizeLine), fun q5 hq5 => ?_⟩⟩⟩⟩⟩⟩
            have x02 := x1.trans x2
            have xB := x02.ex (Ex.new (o := .tup [.str "place", y]) hq1)
            have xC := xB.ex (Ex.new (o := .tup [.str "end", .str "top"]) hq2)
            have xD := xC.ex (Ex.new (o := .lst [.ref x, .ref x]) hq3)
            have xE := xD.ex (Ex.new (o := .tup [.str "lesser", .ref q3]) hq4)
            have xF := xE.ex (Ex.new (o := .lst [.ref q1, .ref q2, .ref q4, .ref x]) hq5)
            refine ⟨p, q5, _, rfl, xF.2, upd_same, xE.ne hq5, by show 0 < 4; decide, by show 4 ≤ 1000; decide, fun z hz H' x' => ?_⟩
            have xN := xF.trans x'
            have eE := Ex.new (o := .lst [.ref q1, .ref q2, .ref q4, .ref x]) hq5
            have eD := (Ex.new (o := .tup [.str "lesser", .ref q3]) hq4).trans eE
            have eC := (Ex.new (o := .lst [.ref x, .ref x]) hq3).trans eD
            have eB := (Ex.new (o := .tup [.str "end", .str "top"]) hq2).trans eC
            have tx : TM.MdAt (fun b => S b ∨ H b = none) H' (.ref x) (.place nm) := up xN (.place s hx)
            simp only [List.mem_cons, List.not_mem_nil, or_false] at hz
            rcases hz with rfl | rfl | rfl | rfl
            · obtain ⟨nm2, hnm2, rfl⟩ := hn y hy
              exact q _ (.place nm2) H' (.place hnm2) (Nat.zero_le _) (.place (.inr (x02.fresh hq1)) (x'.1 q1 _ (x02.ne hq1) (eB _ _ upd_same))) xN
            · exact q _ (.endd "top") H' (.endd (by decide)) (Nat.zero_le _) (.endd (.inr (xB.fresh hq2)) (x'.1 q2 _ (xB.ne hq2) (eC _ _ upd_same))) xN
            · refine q _ (.lesser [.place nm, .place nm]) H' (.lesser (.inl rfl) fun u hu => ?_) (by simp [TM.Tree.depth, TM.Tree.depthAll]) (.lesser (.inr (xD.fresh hq4)) (x'.1 q4 _ (xD.ne hq4) (eE _ _ upd_same)) (.inr (xC.fresh hq3)) (x'.1 q3 _ (xC.ne hq3) (eD _ _ upd_same)) rfl (A2.get (R := TM.MdAt (fun b => S b ∨ H b = none) H') (xs := [.ref x, .ref x]) ⟨tx, tx, trivial⟩)) xN
              simp only [List.mem_cons, List.not_mem_nil, or_false, or_self] at hu
              rw [hu]
              exact .place hnm
            · exact q _ (.place nm) H' (.place hnm) (Nat.le_succ _) tx xN
        | @endd x nm s hx =>
          cases ok with
          | endd hnm =>
            refine q_when (b := false) (et_eqF (ev_op (ev_var rfl) ev_c (rv_ixT (st_of hx) (i := 0) rfl)) ev_c rfl (str_ne (by decide))) (fun z => nomatch z) (fun _ H1 e1 => ?_)
            refine q_when (b := true) (et_eqT (ev_op (ev_var rfl) ev_c (rv_ixT (st_of (e1 _ _ hx)) (i := 0) rfl)) ev_c rfl rfl) (fun _ H2 e2 => ?_) (fun z => nomatch z)
            have e02 := e1.trans e2
            rcases TM.cs_endd hnm with rfl | rfl
            · refine s_retU (eu_tup (ea_cons ev_c (ea_cons (ev_dget (kvs := [("bottom", "top"), ("top", "bottom")]) (k := "bottom") (v := "top") (by decide) (ev_op (ev_var rfl) ev_c (rv_ixT (st_of (e02 _ _ hx)) (i := 1) rfl)) (by decide +kernel)) ea_nil)) (by show 2 ≤ 100000; decide)) fun r H3 hr e3 h3 => ?_
              have xr := x0.ex (e02.trans e3)
              exact q _ (.endd "top") H3 (.endd (by decide)) (Nat.zero_le _) (.endd (.inr ((x0.ex e02).fresh hr)) h3) xr
            · refine s_retU (eu_tup (ea_cons ev_c (ea_cons (ev_dget (kvs := [("bottom", "top"), ("top", "bottom")]) (k := "top") (v := "bottom") (by decide) (ev_op (ev_var rfl) ev_c (rv_ixT (st_of (e02 _ _ hx)) (i := 1) rfl)) (by decide +kernel)) ea_nil)) (by show 2 ≤ 100000; decide)) fun r H3 hr e3 h3 => ?_
              have xr := x0.ex (e02.trans e3)
              exact q _ (.endd "bottom") H3 (.endd (by decide)) (Nat.zero_le _) (.endd (.inr ((x0.ex e02).fresh hr)) h3) xr
        | lesser s hx sl hl1 hxn hxs => simp [TM.Tree.depth] at hd0
        | greater s hx sl hl1 hxn hxs => simp [TM.Tree.depth] at hd0
      · obtain ⟨x, l1, xs, ts, word, rfl, sx, hx, sl, hl1, h2, hln, hok, hdt, hww⟩ := md_parts ht ok hd0
        obtain ⟨ww, w1, w2, word2, hv2, ww2⟩ := words_of hww
        have hx2 := h2.len
        have hlen := hln.two
        have hlen8 := hln.eight
        rw [hdt] at q
        have fin : ∀ {H' : Hp} {r : Addr} {ys : List V} {us : List TM.Tree} {wd : Str}, Words (.str wd) → Px p H H' → H r = none → H' r = some (.lst ys) → A2 (TM.MdAt (fun b => S b ∨ H b = none) H') ys us → TM.Ln us.length → (∀ u ∈ us, TM.Ok u ∧ u.depth ≤ TM.Tree.depthAll ts + 1) → ∀ y, H' y = none → Q (.ref y) (upd H' y (.tup [.str wd, .ref r])) := by
          intro H' r ys us wd hw px hr hr' hA ln hu y hy
          have ey : Ex H' (upd H' y (.tup [.str wd, .ref r])) := Ex.new hy
          obtain ⟨t', ok', hd', hm⟩ := md_two (S := fun b => S b ∨ H b = none) hw (.inr (px.fresh hy)) (.inr hr) upd_same (ey _ _ hr') (hA.imp fun a b h => h.ex ey) ln hu
          exact q _ t' _ ok' hd' hm (px.ex ey)
        refine q_when (b := false) (et_eqF (ev_op (ev_var rfl) ev_c (rv_ixT (st_of hx) (i := 0) rfl)) ev_c rfl (str_ne w1)) (fun z => nomatch z) (fun _ H1 e1 => ?_)
        refine q_when (b := false) (et_eqF (ev_op (ev_var rfl) ev_c (rv_ixT (st_of (e1 _ _ hx)) (i := 0) rfl)) ev_c rfl (str_ne w2)) (fun z => nomatch z) (fun _ H2 e2 => ?_)
        have x02 := x0.ex (e1.trans e2)
        refine ⟨.ref p, rfl, p, 6, rfl, x02.2, by decide, by decide, fun way H3 w0 w6 x3 => ?_⟩
        have x03 := x02.trans x3
        have keepx : ∀ {H' : Hp}, Px p H H' → H' x = some (.tup [.str word, .ref l1]) ∧ H' l1 = some (.lst xs) := fun px => ⟨px.1 x _ (hS x sx).2 hx, px.1 l1 _ (hS l1 sl).2 hl1⟩
        obtain ⟨kx3, kl3⟩ := keepx x03
        refine ⟨.ref p, rfl, .ref x, rfl, x, _, 1, _, rfl, rfl, st_of kx3, rfl, l1, xs, rfl, .inl (sq_of kl3), p, xs.length, rfl, x03.2, by omega, by omega, fun at_ H4 a0 a1 x4 => ?_⟩
        have x04 := x03.trans x4
        obtain ⟨kx4, kl4⟩ := keepx x04
        refine ⟨.ref x, rfl, x, _, 1, _, rfl, rfl, st_of kx4, rfl, l1, xs, rfl, .inl (sq_of kl4), fun r hr => ⟨.int way, .int at_, .ref r, rfl, ?_⟩⟩
        obtain ⟨m, rfl⟩ := Int.eq_ofNat_of_zero_le a0
        have hm : m < xs.length := by omega
        have x05 := x04.ex (Ex.new (o := .lst xs) hr)
        have hr5 : (upd H4 r (.lst xs)) r = some (.lst xs) := upd_same
        have rn := x04.fresh hr
        have rp := x04.ne hr
        generalize upd H4 r (.lst xs) = H5 at x05 hr5
        clear x4 kx3 kl3 kx4 kl4 x3
        have okd : ∀ u ∈ ts, TM.Ok u ∧ u.depth ≤ TM.Tree.depthAll ts + 1 := fun u hu => ⟨hok u hu, Nat.le_trans (TM.depth_mem hu) (Nat.le_succ _)⟩
        have upA : ∀ {H' : Hp}, Px p H H' → A2 (TM.MdAt (fun b => S b ∨ H b = none) H') xs ts := fun px => h2.imp fun a b h => up px h
        refine q_if (b := decide (way < 3)) (et_test (ev_op (ev_var rfl) ev_c rv_I0)) (fun _ H6 e6 => ?_) (fun _ H6 e6 => ?_)
        · have x06 := x05.ex e6
          have hr6 := e6 _ _ hr5
          have hmt : m < ts.length := by omega
          have hmem : ts[m] ∈ ts := List.getElem_mem hmt
          refine ⟨.ref p, rfl, .ref r, rfl, .int (m : Int), rfl, r, xs, m, xs[m], rfl, rfl, sq_of hr6, at_nat hm, .ref l, rfl, p, l, S, xs[m], ts[m], pls, rfl, x06.2, ?_, fun b s => ⟨fun z => (hS b s).1 (x06.fresh z), (hS b s).2⟩, hok _ hmem, ?_, x06.1 l _ lp hl, lp, h0, h5, hn, fun v' t' H7 ok' hd' hm' x7 => ?_⟩
          · exact (h2.get m _ _ (List.getElem?_eq_getElem hm) (List.getElem?_eq_getElem hmt)).up (fun b s => s) fun b o s e => x06.1 b o (hS b s).2 e
          · have := TM.depth_mem hmem
            omega
          · have x07 := x06.trans x7
            have hr7 := x7.1 r _ rp hr6
            have hz : ixN xs.length (m : Int) = some m := ixN_nat hm
            refine ⟨.ref r, rfl, .int (m : Int), rfl, r, xs, m, m, rfl, rfl, hr7, hz, ?_⟩
            have x08 : Px p H (upd H7 r (.lst (xs.set m v'))) := ⟨fun b o bp e => by rw [upd_ne (ne_of_none e rn)]; exact x07.1 b o bp e, by
              obtain ⟨i, j, h1, h2⟩ := x07.2
              exact ⟨i, j, by rw [upd_ne (Ne.symm rp)]; exact h1, h2⟩⟩
            refine ⟨.ref x, rfl, x, _, 0, _, rfl, rfl, st_of (keepx x08).1, rfl, .ref r, rfl, (by show 2 ≤ sizeLine; decide), fin (us := ts.set m t') ww x08 rn upd_same ((upA x08).set m (y := t') ?_) (by rw [List.length_set]; exact hln) fun u hu => ?_⟩
            · refine hm'.up (fun b s => s.elim (fun s => .inl s) fun s => .inr (x06.fresh s)) fun b o s e => ?_
              have br : b ≠ r := by
                rcases s with s | s
                · exact fun z => (hS b s).1 (z ▸ rn)
                · exact fun z => by rw [z, hr6] at s; cases s
              rw [upd_ne br]
              exact e
            · rcases List.mem_or_eq_of_mem_set hu with hu | rfl
              · exact okd u hu
              · have := TM.depth_mem hmem
                exact ⟨ok', by omega⟩
        · refine q_when (b := decide (V.int way = V.int 3)) (et_test (ev_op (ev_var rfl) ev_c (rv_eq rfl))) (fun _ H7 e7 => ?_) (fun _ H7 e7 => ?_)
          · have x07 := x05.ex (e6.trans e7)
            have hr7 := (e6.trans e7) _ _ hr5
            refine ev_dget (kvs := [("lesser", "greater"), ("greater", "lesser")]) (k := word) (v := word2) (σ := [some (.ref p), some (.ref x), some (.ref l), some (.int way), some (.int (m : Int)), some (.ref r)]) (ty := tOp (rIxT K) (tVar 1) (tC (.int 0))) (H := H7) (by decide) (ev_op (ev_var rfl) ev_c (rv_ixT (st_of (keepx x07).1) (i := 0) rfl)) hv2 H7 (Ex.refl H7) _ fun H8 e8 => ?_
            exact ⟨.ref r, rfl, (by show 2 ≤ sizeLine; decide), fin ww2 (x07.ex e8) rn (e8 _ _ hr7) (upA (x07.ex e8)) hln okd⟩
          · refine q_when (b := decide (V.int way = V.int 4) && decide ((xs.length : Int) < 4)) (et_and (et_test (ev_op (ev_var rfl) ev_c (rv_eq rfl))) fun _ => et_test (ev_op (ev_len (ev_var rfl) (sq_of ((e6.trans e7) _ _ hr5))) ev_c rv_I0)) (fun hb H8 e8 => ?_) (fun _ H8 e8 => ?_)
            · have hx4 : xs.length < 4 := by
                rw [Bool.and_eq_true] at hb
                have := of_decide_eq_true hb.2
                omega
              have e08 := (e6.trans e7).trans e8
              have x08 := x05.ex e08
              have hr8 := e08 _ _ hr5
              refine ⟨.ref x, rfl, x, _, 0, _, rfl, rfl, st_of (keepx x08).1, rfl, ?_⟩
              have hmt : m < ts.length := by omega
              have L : EvL (tOp rCat (tOp rCat (tSl (rSlL K) (tVar 5) tNoPart (tPart (tVar 4))) (tLst (tCons (tOp (rIxL K) (tVar 5) (tVar 4)) tNil))) (tSl (rSlL K) (tVar 5) (tPart (tVar 4)) tNoPart)) [some (.ref p), some (.ref x), some (.ref l), some (.int way), some (.int (m : Int)), some (.ref r)] H8 ((xs.take m ++ [xs[m]]) ++ xs.drop m) := by
                refine el_cat (of_el (el_cat (of_el ?_) (el_lst (ea_cons (ev_op (ev_var rfl) (ev_var rfl) (rv_ixL (sq_of hr8) (at_nat hm))) ea_nil) (by show 1 ≤ 100000; decide)) (by rw [List.length_take]; simp; omega))) ?_ (by simp; omega)
                · rw [← cut_to (Nat.le_of_lt hm)]
                  exact el_sl (ev_var rfl) eo_none (eo_some (ev_var rfl)) (sq_of hr8)
                · rw [← cut_from (Nat.le_of_lt hm)]
                  exact el_sl (ev_var rfl) (eo_some (ev_var rfl)) eo_none (sq_of hr8)
              refine L H8 (Ex.refl H8) _ fun r2 H9 hr2 e9 h9 => ?_
              have x09 := x08.ex e9
              refine ⟨(by show 2 ≤ sizeLine; decide), fin (us := (ts.take m ++ [ts[m]]) ++ ts.drop m) ww x09 (x08.fresh hr2) h9 ((((upA x09).take m).app (show A2 (TM.MdAt (fun b => S b ∨ H b = none) H9) [xs[m]] [ts[m]] from ⟨(upA x09).get m _ _ (List.getElem?_eq_getElem hm) (List.getElem?_eq_getElem hmt), trivial⟩)).app ((upA x09).drop m)) ?_ fun u hu => okd u ?_⟩
              · have : ((ts.take m ++ [ts[m]]) ++ ts.drop m).length = ts.length + 1 := by
                  simp
                  omega
                rw [this]
                rcases hln with z | z | z | z
                · exact .inr (.inl (by omega))
                · exact .inr (.inr (.inl (by omega)))
                · omega
                · omega
              · simp only [List.mem_append, List.mem_singleton] at hu
                rcases hu with (hu | rfl) | hu
                · exact List.mem_of_mem_take hu
                · exact List.getElem_mem hmt
                · exact List.mem_of_mem_drop hu
            · have e08 := (e6.trans e7).trans e8
              have x08 := x05.ex e08
              have hr8 := e08 _ _ hr5
              refine ⟨.ref x, rfl, x, _, 0, _, rfl, rfl, st_of (keepx x08).1, rfl, .ref r, rfl, r, xs, rfl, sq_of hr8, fun r2 hr2 => ⟨(by show 2 ≤ sizeLine; decide), ?_⟩⟩
              have x09 := x08.ex (Ex.new (o := .lst xs.reverse) hr2)
              exact fin (us := ts.reverse) ww x09 (x08.fresh hr2) upd_same (upA x09).rev (by rw [List.length_reverse]; exact hln) fun u hu => okd u (List.mem_reverse.mp hu)
end
end K13
namespace K13
open PySem PySem.Spec PyProof.Rows L2 LG Evl
/-! ### readings that give something of a kind -/
def EvP (te : TE) (σ : L2.St) (H : Hp) (P : V → Hp → Prop) : Prop := ∀ H1, Ex H H1 → ∀ Q : VK, (∀ v H2, Ex H1 H2 → P v H2 → Q v H2) → te σ H1 Q
def TmP (a : At) (t : TM.Tree) : V → Hp → Prop := fun v H => TM.TmAt (csOf a) H v t
def MdP (S : Addr → Prop) (t : TM.Tree) : V → Hp → Prop := fun v H => TM.MdAt S H v t
def Up (P : V → Hp → Prop) : Prop := ∀ v H H', Ex H H' → P v H → P v H'
theorem up_tm (a : At) (t : TM.Tree) : Up (TmP a t) := fun _ _ _ e h => TM.TmAt.up e h
theorem up_md (S : Addr → Prop) (t : TM.Tree) : Up (MdP S t) := fun _ _ _ e h => TM.MdAt.ex e h
/-- a pair of a package's term and the law's own one -/
def PrP (S : Addr → Prop) (a : At) (t : TM.Tree) : V → Hp → Prop := fun v H => ∃ r x y, v = .ref r ∧ H r = some (.tup [x, y]) ∧ TmP a t x H ∧ MdP S t y H
theorem up_pr (S : Addr → Prop) (a : At) (t : TM.Tree) : Up (PrP S a t) := fun v H H' e ⟨r, x, y, h1, h2, h3, h4⟩ => ⟨r, x, y, h1, e _ _ h2, up_tm a t _ _ _ e h3, up_md S t _ _ _ e h4⟩
theorem two_md {S : Addr → Prop} {H : Hp} {v u : V} {t t2 : TM.Tree} (h1 : MdP S t v H) (h2 : MdP S t2 u H) : ∀ (i : Nat) (y : V) (z : TM.Tree), [v, u][i]? = some y → [t, t2][i]? = some z → TM.MdAt S H y z
  | 0, _, _, a, b => by
    cases a
    cases b
    exact h1
  | 1, _, _, a, b => by
    cases a
    cases b
    exact h2
  | i + 2, _, _, a, _ => by simp at a
section
variable {σ : L2.St} {H : Hp} {ta tb te : TE} {a : At} {S : Addr → Prop} {t u : TM.Tree} {K : PySem.W.Frag}
theorem ep_var {i : Nat} {v : V} {P : V → Hp → Prop} (up : Up P) (h : σ[i]? = some (some v)) (p : P v H) : EvP (tVar i) σ H P := fun H1 e Q q => ⟨v, h, q v H1 (Ex.refl H1) (up _ _ _ e p)⟩
theorem ep_and (ha : EvP ta σ H (TmP a t)) (hb : EvP tb σ H (TmP a u)) : EvP (tOp (rAndT a) ta tb) σ H (TmP a (.lesser [t, u])) := fun H1 e Q q =>
  ha H1 e _ fun x H2 e2 p => hb H2 (e.trans e2) _ fun y H3 e3 p2 => ⟨t, u, TM.TmAt.up e3 p, p2, fun v H4 e4 p4 => q v H4 ((e2.trans e3).trans e4) p4⟩
theorem ep_or (ha : EvP ta σ H (TmP a t)) (hb : EvP tb σ H (TmP a u)) : EvP (tOp (rOrT a) ta tb) σ H (TmP a (.greater [t, u])) := fun H1 e Q q =>
  ha H1 e _ fun x H2 e2 p => hb H2 (e.trans e2) _ fun y H3 e3 p2 => ⟨t, u, TM.TmAt.up e3 p, p2, fun v H4 e4 p4 => q v H4 ((e2.trans e3).trans e4) p4⟩
theorem ep_lesser (hS : ∀ b H', Ex H H' → H' b = none → S b) (ha : EvP ta σ H (MdP S t)) (hb : EvP tb σ H (MdP S u)) : EvP (tTup (tCons (tC (.str "lesser")) (tCons (tLst (tCons ta (tCons tb tNil))) tNil))) σ H (MdP S (.lesser [t, u])) := fun H1 e Q q =>
  ha H1 e _ fun x H2 e2 p => hb H2 (e.trans e2) _ fun y H3 e3 p2 => ⟨(by show 2 ≤ sizeLine; decide), fun l hl => ⟨(by show 2 ≤ sizeLine; decide), fun r hr => by
    have e1 : Ex H3 (upd H3 l (.lst [x, y])) := Ex.new hl
    have e4 : Ex (upd H3 l (.lst [x, y])) (upd (upd H3 l (.lst [x, y])) r (.tup [.str "lesser", .ref l])) := Ex.new hr
    have e03 := (e.trans e2).trans e3
    exact q _ _ ((e2.trans e3).trans (e1.trans e4)) (.lesser (hS r _ (e03.trans e1) hr) upd_same (hS l _ e03 hl) (e4 _ _ upd_same) rfl (two_md (up_md S t _ _ _ (e3.trans (e1.trans e4)) p) (up_md S u _ _ _ (e1.trans e4) p2)))⟩⟩
theorem ep_greater (hS : ∀ b H', Ex H H' → H' b = none → S b) (ha : EvP ta σ H (MdP S t)) (hb : EvP tb σ H (MdP S u)) : EvP (tTup (tCons (tC (.str "greater")) (tCons (tLst (tCons ta (tCons tb tNil))) tNil))) σ H (MdP S (.greater [t, u])) := fun H1 e Q q =>
  ha H1 e _ fun x H2 e2 p => hb H2 (e.trans e2) _ fun y H3 e3 p2 => ⟨(by show 2 ≤ sizeLine; decide), fun l hl => ⟨(by show 2 ≤ sizeLine; decide), fun r hr => by
    have e1 : Ex H3 (upd H3 l (.lst [x, y])) := Ex.new hl
    have e4 : Ex (upd H3 l (.lst [x, y])) (upd (upd H3 l (.lst [x, y])) r (.tup [.str "greater", .ref l])) := Ex.new hr
    have e03 := (e.trans e2).trans e3
    exact q _ _ ((e2.trans e3).trans (e1.trans e4)) (.greater (hS r _ (e03.trans e1) hr) upd_same (hS l _ e03 hl) (e4 _ _ upd_same) rfl (two_md (up_md S t _ _ _ (e3.trans (e1.trans e4)) p) (up_md S u _ _ _ (e1.trans e4) p2)))⟩⟩
theorem ep_pair (ha : EvP ta σ H (TmP a t)) (hb : EvP tb σ H (MdP S t)) : EvP (tTup (tCons ta (tCons tb tNil))) σ H (PrP S a t) := fun H1 e Q q =>
  ha H1 e _ fun x H2 e2 p => hb H2 (e.trans e2) _ fun y H3 e3 p2 => ⟨(by show 2 ≤ sizeLine; decide), fun r hr => q _ _ ((e2.trans e3).trans (Ex.new hr)) ⟨r, x, y, rfl, upd_same, up_tm a t _ _ _ (e3.trans (Ex.new hr)) p, up_md S t _ _ _ (Ex.new hr) p2⟩⟩
theorem ep_real {i n : Nat} {v : V} {E : XK} (h : σ[i]? = some (some v)) (ht : MdP S t v H) (ok : TM.Ok t) (hd : t.depth < n) : EvP (tFn (sp__law_real a n) E (tCons (tVar i) tNil)) σ H (TmP a t) := fun H1 e Q q =>
  ⟨v, h, S, v, t, rfl, ht.ex e, ok, hd, fun x H2 e2 tm => q x H2 e2 tm⟩
theorem md_off {H : Hp} {l : Addr} {v : V} {t : TM.Tree} (hl : H l = none) (h : TM.MdAt S H v t) : TM.MdAt (fun b => b ≠ l) H v t := by
  induction h with
  | place s h => exact .place (ne_of_none h hl) h
  | endd s h => exact .endd (ne_of_none h hl) h
  | lesser s h sl hl2 hn _ ih => exact .lesser (ne_of_none h hl) h (ne_of_none hl2 hl) hl2 hn ih
  | greater s h sl hl2 hn _ ih => exact .greater (ne_of_none h hl) h (ne_of_none hl2 hl) hl2 hn ih
theorem pr_off {H : Hp} {l : Addr} {v : V} {t : TM.Tree} (hl : H l = none) (h : PrP S a t v H) : PrP (fun b => b ≠ l) a t v H := let ⟨r, x, y, h1, h2, h3, h4⟩ := h; ⟨r, x, y, h1, h2, h3, md_off hl h4⟩
/-- the list at l is written -/
theorem pr_wr {H : Hp} {l : Addr} {xs zs : List V} {v : V} {t : TM.Tree} (hl : H l = some (.lst xs)) (h : PrP (fun b => b ≠ l) a t v H) : PrP (fun b => b ≠ l) a t v (upd H l (.lst zs)) := by
  obtain ⟨r, x, y, h1, h2, h3, h4⟩ := h
  have rl : r ≠ l := fun z => by rw [z, hl] at h2; cases h2
  exact ⟨r, x, y, h1, by rw [upd_ne rl]; exact h2, tm_off hl h3, h4.up (fun b s => s) fun b o s e => by rw [upd_ne s]; exact e⟩
theorem et_neF {x : V} (ha : Ev ta σ H x) (hb : Ev tb σ H x) (hs : scal x x = true) : EvT (tTest (tOp rNe ta tb)) σ H false := et_is (et_test (ev_op ha hb (rv_ne hs))) (by rw [decide_eq_true rfl]; rfl)
theorem ev_eqT {x : V} (ha : Ev ta σ H x) (hb : Ev tb σ H x) (hs : scal x x = true) : Ev (tOp rEq ta tb) σ H (.bl true) := ev_is (ev_op ha hb (rv_eq hs)) (by rw [decide_eq_true rfl])
theorem et_neTm {v : V} (ha : Ev ta σ H v) (ht : TmP a t v H) (ok : TM.Ok t) (hd : t.depth ≤ 5) (hb : EvP tb σ H (TmP a t)) : EvT (tTest (tOp (rNeT a) ta tb)) σ H false := fun H1 e Q q =>
  ha H1 e _ fun H2 e2 => hb H2 (e.trans e2) _ fun u H3 e3 p3 => ⟨t, up_tm a t _ _ _ ((e.trans e2).trans e3) ht, ok, hd, .inl ⟨t, p3, ok, hd, fun H' e' => ⟨false, by simp, q H' ((e2.trans e3).trans e')⟩⟩⟩
theorem ev_strT {v : V} (ha : Ev ta σ H v) (ht : TmP a t v H) (ok : TM.Ok t) (hd : t.depth ≤ 5) : Ev (tCB (rStrT a) (tCons ta tNil)) σ H (.str t.text) := ev_cb (ea_cons ha ea_nil) fun H1 e Q q => ⟨v, t, rfl, up_tm a t _ _ _ e ht, ok, hd, fun H' e' => q H' e'⟩
theorem ev_reprT {v : V} (ha : Ev ta σ H v) (ht : TmP a t v H) (ok : TM.Ok t) (hd : t.depth ≤ 5) : Ev (tCB (rReprT a) (tCons ta tNil)) σ H (.str t.repr) := ev_cb (ea_cons ha ea_nil) fun H1 e Q q => ⟨v, t, rfl, up_tm a t _ _ _ e ht, ok, hd, fun H' e' => q H' e'⟩
theorem ev_textM {v : V} {n : Nat} {E : XK} (ha : Ev ta σ H v) (ht : MdP S t v H) (ok : TM.Ok t) (hd : t.depth ≤ 5) (hn : t.depth < n) : Ev (tFn (sp__law_text n) E (tCons ta tNil)) σ H (.str t.text) := ev_fn (ea_cons ha ea_nil) fun H1 e Q q E => ⟨S, v, t, rfl, ht.ex e, ok, hn, hd, fun H' e' => q H' e'⟩
theorem ev_writM {v : V} {n : Nat} {E : XK} (ha : Ev ta σ H v) (ht : MdP S t v H) (ok : TM.Ok t) (hd : t.depth ≤ 5) (hn : t.depth < n) : Ev (tFn (sp__law_written n) E (tCons ta tNil)) σ H (.str t.repr) := ev_fn (ea_cons ha ea_nil) fun H1 e Q q E => ⟨S, v, t, rfl, ht.ex e, ok, hn, hd, fun H' e' => q H' e'⟩
end
section
variable {σ : L2.St} {H : Hp} {ta tb te : TE} {K : PySem.W.Frag} {D : Ends} {tz : TS} {i : Nat} {P1 P2 : V → Hp → Prop}
theorem q_asgP2 (ha : EvP ta σ H P1) (hb : EvP tb σ H P2) (up1 : Up P1) (k : ∀ v1 v2 H1 l, Ex H H1 → P1 v1 H1 → P2 v2 H1 → H1 l = none → tz D (σ.set i (some (.ref l))) (upd H1 l (.lst [v1, v2]))) : tSeq (tAsg (tLst (tCons ta (tCons tb tNil))) (gName i)) tz D σ H :=
  ha H (Ex.refl H) _ fun v1 H2 e2 h1 => hb H2 e2 _ fun v2 H3 e3 h2 => ⟨(by show 2 ≤ sizeLine; decide), fun l hl => k v1 v2 H3 l (e2.trans e3) (up1 _ _ _ e3 h1) h2 hl⟩
theorem q_appP {l : Addr} {xs : List V} (hv : σ[i]? = some (some (.ref l))) (hl : H l = some (.lst xs)) (h : EvP te σ H P1) (hz : xs.length < 1000) (k : ∀ v H1, Ex H H1 → P1 v H1 → tz D σ (upd H1 l (.lst (xs ++ [v])))) : tSeq (tDrop (tBM K "list" rAppend (tVar i) (tCons te tNil))) tz D σ H :=
  ⟨.ref l, hv, .inl ⟨rfl, _, sq_of hl⟩, h H (Ex.refl H) _ fun v H1 e1 h1 => ⟨l, xs, v, rfl, rfl, e1 _ _ hl, sz_lt (by omega), k v H1 e1 h1⟩⟩
end
section
variable {P : Program} {w : World} {K : PySem.W.Frag} {mg : Str → Option Value} {base : Heap} {a : At}
/-! ### the signs -/
def sp__law_signs_right (a : At) : Sp := fun vs H Q _ => ∃ (S : Addr → Prop) (v tv ov : V) (t o : TM.Tree), vs = [v, tv, ov] ∧ TmP a t v H ∧ MdP S t tv H ∧ MdP S o ov H ∧ TM.Ok t ∧ TM.Ok o ∧ t.depth ≤ 3 ∧ o.depth ≤ 3 ∧ ∀ H', Ex H H' → Q (.bl true) H'
theorem ok__law_signs_right (T : Txt K mg a) (F : Files P K a) : Fn P w K mg base 14 a._law_signs_right (sp__law_signs_right a) := by
  have G__law_real : Fn P w K mg base 13 a._law_real (sp__law_real a 6) := ok__law_real T F 6
  have G__law_text : Fn P w K mg base 13 a._law_text (sp__law_text 6) := ok__law_text T 6
  have G__law_written : Fn P w K mg base 7 a._law_written (sp__law_written 6) := ok__law_written T 6
  refine T.d__law_signs_right.fn sc__law_signs_right (fun _ _ _ _ _ _ us hl => match us, hl with | [_, _, _], _ => rfl) (fun vs H Q E h => ?_) (fun cdv A outer s H vs Q E hg hr h => ?_)
  · obtain ⟨_, _, _, _, _, _, rfl, _⟩ := h
    rfl
  · obtain ⟨S, v, tv, ov, t, o, rfl, tm, tmd, omd, ot, oo, dt, dd, q⟩ := h
    have nd := sc__law_signs_right.nd
    have hr11 := hr.mono (j := 11) (by decide)
    have hr10 := hr.mono (j := 10) (by decide)
    have hr7 := hr.mono (j := 7) (by decide)
    refine ⟨_, (pss_cons (ps_set (i := 3) nd rfl (.inl rfl) (pe_fn G__law_real hg (hr.mono (by decide)) T.d__law_real.kp T.d__law_real.m (by rfl) passL (pa_cons (pv 2) pa_nil)))
    (pss_cons (ps_set (i := 4) nd rfl (.inl rfl) (pe_lst (pa_cons (pe_tup (pa_cons (pe_op (op_and_tm T F hg hr7 passL) (pv 0) (pv 3)) (pa_cons (pe_tup (pa_cons pe_str (pa_cons (pe_lst (pa_cons (pv 1) (pa_cons (pv 2) pa_nil))) pa_nil))) pa_nil))) (pa_cons (pe_tup (pa_cons (pe_op (op_or_tm T F hg hr7 passL) (pv 3) (pv 0)) (pa_cons (pe_tup (pa_cons pe_str (pa_cons (pe_lst (pa_cons (pv 2) (pa_cons (pv 1) pa_nil))) pa_nil))) pa_nil))) pa_nil))))
    (pss_cons (ps_expr (pe_bm PySem.F.plainAttrs_list PySem.F.slot_list_append PySem.F.type_list_append mt_append (pv 4) (pa_cons (pe_tup (pa_cons (pe_op (op_and_tm T F hg hr7 passL) (pe_op (op_and_tm T F hg hr7 passL) (pv 0) (pv 3)) (pv 0)) (pa_cons (pe_tup (pa_cons pe_str (pa_cons (pe_lst (pa_cons (pe_tup (pa_cons pe_str (pa_cons (pe_lst (pa_cons (pv 1) (pa_cons (pv 2) pa_nil))) pa_nil))) (pa_cons (pv 1) pa_nil))) pa_nil))) pa_nil))) pa_nil)))
    (pss_cons (ps_expr (pe_bm PySem.F.plainAttrs_list PySem.F.slot_list_append PySem.F.type_list_append mt_append (pv 4) (pa_cons (pe_tup (pa_cons (pe_op (op_or_tm T F hg hr7 passL) (pv 0) (pe_op (op_and_tm T F hg hr7 passL) (pv 3) (pv 3))) (pa_cons (pe_tup (pa_cons pe_str (pa_cons (pe_lst (pa_cons (pv 1) (pa_cons (pe_tup (pa_cons pe_str (pa_cons (pe_lst (pa_cons (pv 2) (pa_cons (pv 2) pa_nil))) pa_nil))) pa_nil))) pa_nil))) pa_nil))) pa_nil)))
    (pss_cons (ps_for PassesOwn.leaving rfl (pi_list (pv 4)) (pg_tup (by rfl) (pgs_cons (pg_name (i := 5) nd rfl (.inl rfl)) (pgs_cons (pg_name (i := 6) nd rfl (.inl rfl)) pgs_nil)))
      (pss_one (ps_if (PW.pt (pw_or (pt_cmpR op_ne (pe_callTy (call_str_tm T F hg hr11 passL) (by rfl) T.z_str (by decide +kernel) (pa_cons (pv 5) pa_nil)) (pe_fn G__law_text hg (hr.mono (by decide)) T.d__law_text.kp T.d__law_text.m (by rfl) passL (pa_cons (pv 6) pa_nil)) (nomark _)) (pw_or (pt_cmpR op_ne (pe_callB (call_repr_tm T F hg hr10 passL) (by rfl) T.z_repr (by decide +kernel) (pa_cons (pv 5) pa_nil)) (pe_fn G__law_written hg (hr.mono (by decide)) T.d__law_written.kp T.d__law_written.m (by rfl) passL (pa_cons (pv 6) pa_nil)) (nomark _)) (pw_or1 (pt_cmpR (op_ne_tm T F hg hr10 passL) (pv 5) (pe_fn G__law_real hg (hr.mono (by decide)) T.d__law_real.kp T.d__law_real.m (by rfl) passL (pa_cons (pv 6) pa_nil)) (nomark _)))))) (pss_one (ps_ret pe_bl)) pss_nil)))
    (pss_one (ps_ret (pe_and (pe_cmpR op_eq (pe_callTy (call_str_tm T F hg hr11 passL) (by rfl) T.z_str (by decide +kernel) (pa_cons (pv 0) pa_nil)) (pe_fn G__law_text hg (hr.mono (by decide)) T.d__law_text.kp T.d__law_text.m (by rfl) passL (pa_cons (pv 1) pa_nil)) (nomark _)) (pe_one (pe_cmpR op_eq (pe_callTy (call_str_tm T F hg hr11 passL) (by rfl) T.z_str (by decide +kernel) (pa_cons (pv 3) pa_nil)) (pe_fn G__law_text hg (hr.mono (by decide)) T.d__law_text.kp T.d__law_text.m (by rfl) passL (pa_cons (pv 2) pa_nil)) (nomark _))))))))))), ?_⟩
    refine ⟨ov, rfl, S, ov, o, rfl, omd, oo, by omega, fun rv H1 e1 rm => ?_⟩
    have T1 : MdP (fun _ => True) t tv H1 := (tmd.ex e1).up (fun _ _ => trivial) fun _ _ _ e => e
    have O1 : MdP (fun _ => True) o ov H1 := (omd.ex e1).up (fun _ _ => trivial) fun _ _ _ e => e
    have V1 : TmP a t v H1 := TM.TmAt.up e1 tm
    have epA : EvP (tTup (tCons (tOp (rAndT a) (tVar 0) (tVar 3)) (tCons (tTup (tCons (tC (.str "lesser")) (tCons (tLst (tCons (tVar 1) (tCons (tVar 2) tNil))) tNil))) tNil))) [some v, some tv, some ov, some rv, none, none, none] H1 (PrP (fun _ => True) a (.lesser [t, o])) :=
      ep_pair (ep_and (ep_var (up_tm a t) rfl V1) (ep_var (up_tm a o) rfl rm)) (ep_lesser (fun _ _ _ _ => trivial) (ep_var (up_md _ t) rfl T1) (ep_var (up_md _ o) rfl O1))
    have epB : EvP (tTup (tCons (tOp (rOrT a) (tVar 3) (tVar 0)) (tCons (tTup (tCons (tC (.str "greater")) (tCons (tLst (tCons (tVar 2) (tCons (tVar 1) tNil))) tNil))) tNil))) [some v, some tv, some ov, some rv, none, none, none] H1 (PrP (fun _ => True) a (.greater [o, t])) :=
      ep_pair (ep_or (ep_var (up_tm a o) rfl rm) (ep_var (up_tm a t) rfl V1)) (ep_greater (fun _ _ _ _ => trivial) (ep_var (up_md _ o) rfl O1) (ep_var (up_md _ t) rfl T1))
    refine q_asgP2 epA epB (up_pr _ a _) fun p1 p2 H3 l e13 h1 h2 hl => ?_
    have e4 : Ex H3 (upd H3 l (.lst [p1, p2])) := Ex.new hl
    have l4 : (upd H3 l (.lst [p1, p2])) l = some (.lst [p1, p2]) := upd_same
    have P1 := up_pr (fun b => b ≠ l) a _ _ _ _ e4 (pr_off hl h1)
    have P2 := up_pr (fun b => b ≠ l) a _ _ _ _ e4 (pr_off hl h2)
    have T4 : MdP (fun b => b ≠ l) t tv (upd H3 l (.lst [p1, p2])) := (md_off hl (T1.ex e13)).ex e4
    have O4 : MdP (fun b => b ≠ l) o ov (upd H3 l (.lst [p1, p2])) := (md_off hl (O1.ex e13)).ex e4
    have V4 : TmP a t v (upd H3 l (.lst [p1, p2])) := up_tm a t _ _ _ (e13.trans e4) V1
    have R4 : TmP a o rv (upd H3 l (.lst [p1, p2])) := up_tm a o _ _ _ (e13.trans e4) rm
    have e04 := (e1.trans e13).trans e4
    have lH : H l = none := fresh_back (e1.trans e13) hl
    generalize upd H3 l (.lst [p1, p2]) = H4 at *
    have hS : ∀ b H', Ex H4 H' → H' b = none → b ≠ l := fun b H' e n z => by rw [z, e _ _ l4] at n; cases n
    have epC : EvP (tTup (tCons (tOp (rAndT a) (tOp (rAndT a) (tVar 0) (tVar 3)) (tVar 0)) (tCons (tTup (tCons (tC (.str "lesser")) (tCons (tLst (tCons (tTup (tCons (tC (.str "lesser")) (tCons (tLst (tCons (tVar 1) (tCons (tVar 2) tNil))) tNil))) (tCons (tVar 1) tNil))) tNil))) tNil))) [some v, some tv, some ov, some rv, some (.ref l), none, none] H4 (PrP (fun b => b ≠ l) a (.lesser [.lesser [t, o], t])) :=
      ep_pair (ep_and (ep_and (ep_var (up_tm a t) rfl V4) (ep_var (up_tm a o) rfl R4)) (ep_var (up_tm a t) rfl V4)) (ep_lesser hS (ep_lesser hS (ep_var (up_md _ t) rfl T4) (ep_var (up_md _ o) rfl O4)) (ep_var (up_md _ t) rfl T4))
    refine q_appP rfl l4 epC (by show 2 < 1000; decide) fun p3 H5 e5 h3 => ?_
    have l5 := e5 _ _ l4
    have l6 : (upd H5 l (.lst ([p1, p2] ++ [p3]))) l = some (.lst [p1, p2, p3]) := upd_same
    have off : ∀ {H' : Hp} {zs ys : List V} {u : V} {z : TM.Tree}, H' l = some (.lst ys) → MdP (fun b => b ≠ l) z u H' → MdP (fun b => b ≠ l) z u (upd H' l (.lst zs)) := fun hl h => TM.MdAt.up (fun b s => s) (fun b o s e => by rw [upd_ne s]; exact e) h
    have P1' := pr_wr (zs := [p1, p2] ++ [p3]) l5 (up_pr _ a _ _ _ _ e5 P1)
    have P2' := pr_wr (zs := [p1, p2] ++ [p3]) l5 (up_pr _ a _ _ _ _ e5 P2)
    have P3' := pr_wr (zs := [p1, p2] ++ [p3]) l5 h3
    have T6 := off (zs := [p1, p2] ++ [p3]) l5 (up_md _ t _ _ _ e5 T4)
    have O6 := off (zs := [p1, p2] ++ [p3]) l5 (up_md _ o _ _ _ e5 O4)
    have V6 : TmP a t v (upd H5 l (.lst ([p1, p2] ++ [p3]))) := tm_off l5 (up_tm a t _ _ _ e5 V4)
    have R6 : TmP a o rv (upd H5 l (.lst ([p1, p2] ++ [p3]))) := tm_off l5 (up_tm a o _ _ _ e5 R4)
    have x06 : Ex H (upd H5 l (.lst ([p1, p2] ++ [p3]))) := Ex.mut (e04.trans e5) lH
    generalize upd H5 l (.lst ([p1, p2] ++ [p3])) = H6 at *
    have hS6 : ∀ b H', Ex H6 H' → H' b = none → b ≠ l := fun b H' e n z => by rw [z, e _ _ l6] at n; cases n
    have epD : EvP (tTup (tCons (tOp (rOrT a) (tVar 0) (tOp (rAndT a) (tVar 3) (tVar 3))) (tCons (tTup (tCons (tC (.str "greater")) (tCons (tLst (tCons (tVar 1) (tCons (tTup (tCons (tC (.str "lesser")) (tCons (tLst (tCons (tVar 2) (tCons (tVar 2) tNil))) tNil))) tNil))) tNil))) tNil))) [some v, some tv, some ov, some rv, some (.ref l), none, none] H6 (PrP (fun b => b ≠ l) a (.greater [t, .lesser [o, o]])) :=
      ep_pair (ep_or (ep_var (up_tm a t) rfl V6) (ep_and (ep_var (up_tm a o) rfl R6) (ep_var (up_tm a o) rfl R6))) (ep_greater hS6 (ep_var (up_md _ t) rfl T6) (ep_lesser hS6 (ep_var (up_md _ o) rfl O6) (ep_var (up_md _ o) rfl O6)))
    refine q_appP rfl l6 epD (by show 3 < 1000; decide) fun p4 H7 e7 h4 => ?_
    have l7 := e7 _ _ l6
    have l8 : (upd H7 l (.lst ([p1, p2, p3] ++ [p4]))) l = some (.lst [p1, p2, p3, p4]) := upd_same
    have Q1 := pr_wr (zs := [p1, p2, p3] ++ [p4]) l7 (up_pr _ a _ _ _ _ e7 P1')
    have Q2 := pr_wr (zs := [p1, p2, p3] ++ [p4]) l7 (up_pr _ a _ _ _ _ e7 P2')
    have Q3 := pr_wr (zs := [p1, p2, p3] ++ [p4]) l7 (up_pr _ a _ _ _ _ e7 P3')
    have Q4 := pr_wr (zs := [p1, p2, p3] ++ [p4]) l7 h4
    have T8 := off (zs := [p1, p2, p3] ++ [p4]) l7 (up_md _ t _ _ _ e7 T6)
    have O8 := off (zs := [p1, p2, p3] ++ [p4]) l7 (up_md _ o _ _ _ e7 O6)
    have V8 : TmP a t v (upd H7 l (.lst ([p1, p2, p3] ++ [p4]))) := tm_off l7 (up_tm a t _ _ _ e7 V6)
    have R8 : TmP a o rv (upd H7 l (.lst ([p1, p2, p3] ++ [p4]))) := tm_off l7 (up_tm a o _ _ _ e7 R6)
    have x08 : Ex H (upd H7 l (.lst ([p1, p2, p3] ++ [p4]))) := Ex.mut (x06.trans e7) lH
    generalize upd H7 l (.lst ([p1, p2, p3] ++ [p4])) = H8 at *
    clear epA epB epC epD P1 P2 P1' P2' P3' h1 h2 h3 h4 hS hS6
    have two : ∀ {x y : TM.Tree}, TM.Ok x → TM.Ok y → TM.Ok (.lesser [x, y]) ∧ TM.Ok (.greater [x, y]) := fun {x y} hx hy => by
      have h : ∀ u ∈ [x, y], TM.Ok u := fun u hu => by
        simp only [List.mem_cons, List.not_mem_nil, or_false] at hu
        rcases hu with rfl | rfl
        · exact hx
        · exact hy
      exact ⟨.lesser (.inl rfl) h, .greater (.inl rfl) h⟩
    have all : ∀ (i : Nat) (x : V), [p1, p2, p3, p4][i]? = some x → ∃ z, PrP (fun b => b ≠ l) a z x H8 ∧ TM.Ok z ∧ z.depth ≤ 5
      | 0, x, h => by
        cases h
        exact ⟨_, Q1, (two ot oo).1, by simp only [TM.Tree.depth, TM.Tree.depthAll]; omega⟩
      | 1, x, h => by
        cases h
        exact ⟨_, Q2, (two oo ot).2, by simp only [TM.Tree.depth, TM.Tree.depthAll]; omega⟩
      | 2, x, h => by
        cases h
        exact ⟨_, Q3, (two (two ot oo).1 ot).1, by simp only [TM.Tree.depth, TM.Tree.depthAll]; omega⟩
      | 3, x, h => by
        cases h
        exact ⟨_, Q4, (two ot (two oo oo).1).2, by simp only [TM.Tree.depth, TM.Tree.depthAll]; omega⟩
      | i + 4, x, h => by simp at h
    refine ⟨.ref l, rfl, l, rfl, ⟨_, sq_of l8⟩, for_list (K := K) (a := l) (xs := [p1, p2, p3, p4]) (fun i σ' H' => Ex H8 H' ∧ ∃ o1 m1, σ' = [some v, some tv, some ov, some rv, some (.ref l), o1, m1]) ⟨Ex.refl H8, none, none, rfl⟩ (fun i σ' H' _ p => sq_of (p.1 _ _ l8)) ?_ ?_⟩
    · rintro i x σ' H' hi ⟨e, o1, m1, rfl⟩
      obtain ⟨z, pz, oz, dz⟩ := all i x hi
      obtain ⟨r, y1, y2, rfl, hr1, tm1, md1⟩ := up_pr _ a _ _ _ _ e pz
      refine ⟨r, _, rfl, st_of hr1, rfl, y1, _, rfl, y2, _, rfl, rfl, ?_⟩
      refine s_when (b := false) (et_is (et_or (et_neF (x := .str z.text) (ev_strT (ev_var rfl) tm1 oz dz) (ev_textM (ev_var rfl) md1 oz dz (by omega)) rfl) fun _ => et_or (et_neF (x := .str z.repr) (ev_reprT (ev_var rfl) tm1 oz dz) (ev_writM (ev_var rfl) md1 oz dz (by omega)) rfl) fun _ => et_neTm (ev_var rfl) tm1 oz dz (ep_real rfl md1 oz (by omega))) rfl) (fun z => nomatch z) fun _ H9 e9 => ⟨e.trans e9, _, _, rfl⟩
    · rintro σ' H' ⟨e, o1, m1, rfl⟩
      refine s_ret (v := .bl true) (ev_is (ev_andV (a := true) (b := true) (ev_eqT (x := .str t.text) (ev_strT (ev_var rfl) (up_tm a t _ _ _ e V8) ot (by omega)) (ev_textM (ev_var rfl) (up_md _ t _ _ _ e T8) ot (by omega) (by omega)) rfl) fun _ => ev_eqT (x := .str o.text) (ev_strT (ev_var rfl) (up_tm a o _ _ _ e R8) oo (by omega)) (ev_textM (ev_var rfl) (up_md _ o _ _ _ e O8) oo (by omega) (by omega)) rfl) rfl) fun H9 e9 => q H9 ((x08.trans e).trans e9)
end
end K13
namespace K13
open PySem PySem.Spec PyProof.Rows L2 LG Evl
section
variable {σ : L2.St} {H : Hp} {ta tb te : TE} {tv : TA} {a : At} {S S' : Addr → Prop} {t u : TM.Tree} {K : PySem.W.Frag} {D : Ends} {tz : TS} {i : Nat} {P : V → Hp → Prop} {Ps : List (V → Hp → Prop)}
def EvPs (tv : TA) (σ : L2.St) (H : Hp) (Ps : List (V → Hp → Prop)) : Prop := ∀ H1, Ex H H1 → ∀ Q : List V → Hp → Prop, (∀ vs H2, Ex H1 H2 → A2 (fun v P => P v H2) vs Ps → Q vs H2) → tv σ H1 Q
theorem eps_nil : EvPs tNil σ H [] := fun H1 e Q q => q [] H1 (Ex.refl H1) trivial
theorem eps_cons (up : Up P) (h : EvP te σ H P) (hs : EvPs tv σ H Ps) : EvPs (tCons te tv) σ H (P :: Ps) := fun H1 e Q q =>
  h H1 e _ fun v H2 e2 p => hs H2 (e.trans e2) _ fun vs H3 e3 ps => q (v :: vs) H3 (e2.trans e3) ⟨up _ _ _ e3 p, ps⟩
theorem q_asgPs (h : EvPs tv σ H Ps) (hn : Ps.length ≤ 1000) (k : ∀ vs H1 l, Ex H H1 → A2 (fun v P => P v H1) vs Ps → H1 l = none → tz D (σ.set i (some (.ref l))) (upd H1 l (.lst vs))) : tSeq (tAsg (tLst tv) (gName i)) tz D σ H :=
  h H (Ex.refl H) _ fun vs H1 e1 ps => ⟨sz_of (by rw [ps.len]; omega), fun l hl => k vs H1 l e1 ps hl⟩
theorem q_asgP (h : EvP te σ H P) (k : ∀ v H1, Ex H H1 → P v H1 → tz D (σ.set i (some v)) H1) : tSeq (tAsg te (gName i)) tz D σ H := h H (Ex.refl H) _ fun v H1 e1 p => k v H1 e1 p
def KdP : V → Hp → Prop := fun v H => ∃ k, Kd H v k
theorem up_kd : Up KdP := fun _ _ _ e ⟨k, h⟩ => ⟨k, kd_up e h⟩
theorem ep_of {v : V} (up : Up P) (h : Ev te σ H v) (p : P v H) : EvP te σ H P := fun H1 e Q q => h H1 e _ fun H2 e2 => q v H2 e2 (up _ _ _ (e.trans e2) p)
theorem ep_lst (h : EvP te σ H P) : EvP (tLst (tCons te tNil)) σ H KdP := fun H1 e Q q => h H1 e _ fun v H2 e2 p => ⟨(by show 1 ≤ sizeLine; decide), fun l hl => q _ _ (e2.trans (Ex.new hl)) ⟨_, .lst upd_same⟩⟩
theorem ep_tup (h : EvP te σ H P) : EvP (tTup (tCons te tNil)) σ H KdP := fun H1 e Q q => h H1 e _ fun v H2 e2 p => ⟨(by show 1 ≤ sizeLine; decide), fun l hl => q _ _ (e2.trans (Ex.new hl)) ⟨_, .tup upd_same⟩⟩
theorem ep_tup0 : EvP (tTup tNil) σ H KdP := fun H1 e Q q => ⟨(by show 0 ≤ sizeLine; decide), fun l hl => q _ _ (Ex.new hl) ⟨_, .tup upd_same⟩⟩
theorem ep_dic0 : EvP tDNewK σ H KdP := fun H1 e Q q => fun l hl => q _ _ (Ex.new hl) ⟨_, .dic upd_same⟩
theorem ev_eqTm {v x : V} (ha : Ev ta σ H v) (hb : Ev tb σ H x) (ht : TmP a t v H) (hu : TmP a u x H) (o1 : TM.Ok t) (o2 : TM.Ok u) (d1 : t.depth ≤ 5) (d2 : u.depth ≤ 5) : Ev (tOp (rEqT a) ta tb) σ H (.bl (PyData.eqv (TM.mdl t) (TM.mdl u))) :=
  ev_is (ev_op ha hb fun H1 e Q q => ⟨t, up_tm a t _ _ _ e ht, o1, d1, .inl ⟨u, up_tm a u _ _ _ e hu, o2, d2, fun H' e' => q H' e'⟩⟩) (by rw [TM.repr_iff o1 o2])
theorem ev_neTm {v x : V} (ha : Ev ta σ H v) (hb : Ev tb σ H x) (ht : TmP a t v H) (hu : TmP a u x H) (o1 : TM.Ok t) (o2 : TM.Ok u) (d1 : t.depth ≤ 5) (d2 : u.depth ≤ 5) : Ev (tOp (rNeT a) ta tb) σ H (.bl (!PyData.eqv (TM.mdl t) (TM.mdl u))) :=
  ev_is (ev_op ha hb fun H1 e Q q => ⟨t, up_tm a t _ _ _ e ht, o1, d1, .inl ⟨u, up_tm a u _ _ _ e hu, o2, d2, fun H' e' => q H' e'⟩⟩) (by rw [TM.repr_iff o1 o2])
theorem ev_eqK {v x : V} (ha : Ev ta σ H v) (hb : Ev tb σ H x) (ht : TmP a t v H) (hu : KdP x H) (o1 : TM.Ok t) (d1 : t.depth ≤ 5) : Ev (tOp (rEqT a) ta tb) σ H (.bl false) :=
  ev_op ha hb fun H1 e Q q => let ⟨k, hk⟩ := hu; ⟨t, up_tm a t _ _ _ e ht, o1, d1, .inr ⟨k, kd_up e hk, fun H' e' => q H' e'⟩⟩
theorem ev_neK {v x : V} (ha : Ev ta σ H v) (hb : Ev tb σ H x) (ht : TmP a t v H) (hu : KdP x H) (o1 : TM.Ok t) (d1 : t.depth ≤ 5) : Ev (tOp (rNeT a) ta tb) σ H (.bl true) :=
  ev_op ha hb fun H1 e Q q => let ⟨k, hk⟩ := hu; ⟨t, up_tm a t _ _ _ e ht, o1, d1, .inr ⟨k, kd_up e hk, fun H' e' => q H' e'⟩⟩
theorem ev_eqRK {v x : V} (ha : Ev ta σ H x) (hb : Ev tb σ H v) (ht : TmP a t v H) (hu : KdP x H) (o1 : TM.Ok t) (d1 : t.depth ≤ 5) : Ev (tOp (rEqR a) ta tb) σ H (.bl false) :=
  ev_op ha hb fun H1 e Q q => let ⟨k, hk⟩ := hu; ⟨t, k, up_tm a t _ _ _ e ht, o1, d1, kd_up e hk, fun H' e' => q H' e'⟩
theorem ev_eqM {v x : V} (ha : Ev ta σ H v) (hb : Ev tb σ H x) (ht : MdP S t v H) (hu : MdP S' u x H) (d1 : t.depth ≤ 5) : Ev (tOp (rEqP K) ta tb) σ H (.bl (PyData.eqv (TM.mdl t) (TM.mdl u))) :=
  ev_op ha hb fun H1 e Q q => ⟨_, _, (ht.ex e).dp, (hu.ex e).dp, TM.mdl_plain t, TM.mdl_plain u, Nat.le_trans (TM.mdl_depth t) (by omega), q H1 (Ex.refl H1)⟩
theorem ev_neM {v x : V} (ha : Ev ta σ H v) (hb : Ev tb σ H x) (ht : MdP S t v H) (hu : MdP S' u x H) (d1 : t.depth ≤ 5) : Ev (tOp (rNeP K) ta tb) σ H (.bl (!PyData.eqv (TM.mdl t) (TM.mdl u))) :=
  ev_op ha hb fun H1 e Q q => ⟨_, _, (ht.ex e).dp, (hu.ex e).dp, TM.mdl_plain t, TM.mdl_plain u, Nat.le_trans (TM.mdl_depth t) (by omega), q H1 (Ex.refl H1)⟩
theorem dp_ss {p : Addr} {x y : Str} (h : H p = some (.lst [.str x, .str y])) : Dp K H (.ref p) (.list [.str x, .str y]) := .lst (sq_of h) (.cons (.str _) (.cons (.str _) .nil))
theorem ev_neSS {x y : Str} (ha : EvL ta σ H [.str x, .str y]) (hb : EvL tb σ H [.str x, .str y]) : Ev (tOp (rNeP K) ta tb) σ H (.bl false) :=
  ev_opLL ha hb fun p q H1 hp hq e => fun H2 e2 Q k => ⟨_, _, dp_ss (e2 _ _ hp), dp_ss (e2 _ _ hq), rfl, rfl, by simp [PyData.depth, PyData.depthAll], by
    rw [SeqAt.eqv_refl_plain _ rfl]
    exact k H2 (Ex.refl H2)⟩
theorem ev_eqSS {x y : Str} (ha : EvL ta σ H [.str x, .str y]) (hb : EvL tb σ H [.str x, .str y]) : Ev (tOp (rEqP K) ta tb) σ H (.bl true) :=
  ev_opLL ha hb fun p q H1 hp hq e => fun H2 e2 Q k => ⟨_, _, dp_ss (e2 _ _ hp), dp_ss (e2 _ _ hq), rfl, rfl, by simp [PyData.depth, PyData.depthAll], by
    rw [SeqAt.eqv_refl_plain _ rfl]
    exact k H2 (Ex.refl H2)⟩
theorem shows3 (b1 b2 b3 : Bool) : Shows (.list [.bool b1, .bool b2, .bool b3]) := by
  unfold Shows
  cases b1 <;> cases b2 <;> cases b3 <;> decide +kernel
theorem dp_3b {p : Addr} {b1 b2 b3 : Bool} (h : H p = some (.lst [.bl b1, .bl b2, .bl b3])) : Dp K H (.ref p) (.list [.bool b1, .bool b2, .bool b3]) := .lst (sq_of h) (.cons (.bl _) (.cons (.bl _) (.cons (.bl _) .nil)))
theorem ev_repr {v : V} {d : PyData} (h : Ev te σ H v) (hd : ∀ H1, Ex H H1 → Dp K H1 v d) (hs : Shows d) : Ev (tCB (rRepr K) (tCons te tNil)) σ H (.str d.shown) := fun H1 e Q q => h H1 e _ fun H2 e2 => ⟨v, d, rfl, .inr (hd H2 (e.trans e2)), hs, q H2 e2⟩
theorem ev_reprL {xs : List V} {d : PyData} (h : EvL te σ H xs) (hd : ∀ p H1, Ex H H1 → H1 p = some (.lst xs) → Dp K H1 (.ref p) d) (hs : Shows d) : Ev (tCB (rRepr K) (tCons te tNil)) σ H (.str d.shown) := fun H1 e Q q => h H1 e _ fun p H2 _ e2 h2 => ⟨.ref p, d, rfl, .inr (hd p H2 (e.trans e2) h2), hs, q H2 e2⟩
theorem ev_any {bs : List Bool} (h : EvL te σ H (bs.map V.bl)) : Ev (tCB (rAny K) (tCons te tNil)) σ H (.bl (bs.any id)) := fun H1 e Q q => h H1 e _ fun p H2 _ e2 h2 => ⟨p, bs, rfl, sq_of h2, q H2 e2⟩
theorem md_tight {v : V} (h : TM.MdAt S H v t) : TM.MdAt (fun b => S b ∧ H b ≠ none) H v t := by
  have k : ∀ {b : Addr} {o : HO}, H b = some o → H b ≠ none := fun h z => by rw [h] at z; cases z
  induction h with
  | place s h => exact .place ⟨s, k h⟩ h
  | endd s h => exact .endd ⟨s, k h⟩ h
  | lesser s h sl hl hn _ ih => exact .lesser ⟨s, k h⟩ h ⟨sl, k hl⟩ hl hn ih
  | greater s h sl hl hn _ ih => exact .greater ⟨s, k h⟩ h ⟨sl, k hl⟩ hl hn ih
end
/-- i bent terms are made -/
def WB (p : Addr) (H8 : Hp) (D : Addr) (acc : List V) (H' : Hp) : Prop := (∀ b o, b ≠ p → b ≠ D → H8 b = some o → H' b = some o) ∧ Po p H' ∧ ∃ ts : List TM.Tree, A2 (fun v z => MdP (fun b => b ≠ p ∧ b ≠ D) z v H') acc ts ∧ ∀ z ∈ ts, TM.Ok z ∧ z.depth ≤ 4
section
variable {P : Program} {w : World} {K : PySem.W.Frag} {mg : Str → Option Value} {base : Heap} {a : At}
def sp__law_right : Sp := fun vs H Q _ => ∃ (p : Addr), vs = [.ref p] ∧ Po p H ∧ ∀ H', Px p H H' → Q (.bl true) H'
theorem ok__law_right (T : Txt K mg a) (F : Files P K a) : Fn P w K mg base 15 a._law_right sp__law_right := by
  have G__law_places : Fn P w K mg base 2 a._law_places sp__law_places := ok__law_places T
  have G__law_term : Fn P w K mg base 6 a._law_term (sp__law_term 4) := ok__law_term T 4
  have G__law_bent : Fn P w K mg base 6 a._law_bent (sp__law_bent 4) := ok__law_bent T 4
  have G__law_real : Fn P w K mg base 13 a._law_real (sp__law_real a 6) := ok__law_real T F 6
  have G__law_text : Fn P w K mg base 13 a._law_text (sp__law_text 6) := ok__law_text T 6
  have G__law_written : Fn P w K mg base 7 a._law_written (sp__law_written 6) := ok__law_written T 6
  have G__law_signs_right : Fn P w K mg base 14 a._law_signs_right (sp__law_signs_right a) := ok__law_signs_right T F
  refine T.d__law_right.fn sc__law_right (fun _ _ _ _ _ _ us hl => match us, hl with | [_], _ => rfl) (fun vs H Q E h => ?_) (fun cdv A outer s H vs Q E hg hr h => ?_)
  · obtain ⟨_, rfl, _⟩ := h
    rfl
  · obtain ⟨p, rfl, hp, q⟩ := h
    have nd := sc__law_right.nd
    have hr11 := hr.mono (j := 11) (by decide)
    have hr10 := hr.mono (j := 10) (by decide)
    have hr9 := hr.mono (j := 9) (by decide)
    have hu : (A.deeper _).units + 64 < cLine := hr.units
    refine ⟨_, (pss_cons (ps_set (i := 1) nd rfl (.inr rfl) (pe_fn G__law_places hg (hr.mono (by decide)) T.d__law_places.kp T.d__law_places.m (by rfl) passL (pa_cons (pv 0) pa_nil)))
    (pss_cons (ps_asg (pe_tup (pa_cons (pe_fn G__law_term hg (hr.mono (by decide)) T.d__law_term.kp T.d__law_term.m (by rfl) passL (pa_cons (pv 0) (pa_cons (pv 1) (pa_cons pe_int pa_nil)))) (pa_cons (pe_fn G__law_term hg (hr.mono (by decide)) T.d__law_term.kp T.d__law_term.m (by rfl) passL (pa_cons (pv 0) (pa_cons (pv 1) (pa_cons pe_int pa_nil)))) pa_nil))) (pg_tup (by rfl) (pgs_cons (pg_name (i := 6) nd rfl (.inr rfl)) (pgs_cons (pg_name (i := 7) nd rfl (.inl rfl)) pgs_nil))))
    (pss_cons (ps_set (i := 2) nd rfl (.inr rfl) (pe_fn G__law_real hg (hr.mono (by decide)) T.d__law_real.kp T.d__law_real.m (by rfl) passL (pa_cons (pv 6) pa_nil)))
    (pss_cons (ps_if (pt_cmpR (op_neP hu) (pe_lst (pa_cons (pe_callTy (call_str_tm T F hg hr11 passL) (by rfl) T.z_str (by decide +kernel) (pa_cons (pv 2) pa_nil)) (pa_cons (pe_callB (call_repr_tm T F hg hr10 passL) (by rfl) T.z_repr (by decide +kernel) (pa_cons (pv 2) pa_nil)) pa_nil))) (pe_lst (pa_cons (pe_fn G__law_text hg (hr.mono (by decide)) T.d__law_text.kp T.d__law_text.m (by rfl) passL (pa_cons (pv 6) pa_nil)) (pa_cons (pe_fn G__law_written hg (hr.mono (by decide)) T.d__law_written.kp T.d__law_written.m (by rfl) passL (pa_cons (pv 6) pa_nil)) pa_nil))) (nomark _)) (pss_one (ps_ret pe_bl)) pss_nil)
    (pss_cons (ps_set (i := 3) nd rfl (.inl rfl) (pe_lst (pa_cons (pv 6) (pa_cons (pv 7) (pa_cons (pe_tup (pa_cons pe_str (pa_cons (pe_lst (pa_cons (pv 6) (pa_cons (pv 6) pa_nil))) pa_nil))) (pa_cons (pe_tup (pa_cons pe_str (pa_cons (pe_lst (pa_cons (pv 6) (pa_cons (pv 6) pa_nil))) pa_nil))) pa_nil))))))
    (pss_cons (ps_set (i := 3) nd rfl (.inl rfl) (pe_op op_cat (pv 3) (pe_lc rfl (own := [("turn", 10)]) (g := gName 10) (by exact nd) (pi_range1 (by rfl) T.z_range (pa_cons pe_int pa_nil)) (blkOk_by (own := [("turn", 10)]) (N := ["pot", "places", "made", "near", "model", "things", "term", "other", "twin", "told", "turn", "thing"]) (sc := defScope s__law_right) (by decide +kernel)) (fun _ _ _ _ _ => (pg_name (i := 10) nd rfl (.inl rfl))) (fun _ _ _ _ _ => pts_nil) (fun _ _ _ _ _ => (pe_fn G__law_bent hg (hr.mono (by decide)) T.d__law_bent.kp T.d__law_bent.m (by rfl) passL (pa_cons (pv 0) (pa_cons (pv 6) (pa_cons (pv 1) pa_nil))))))))
    (pss_cons (ps_for PassesOwn.leaving rfl (pi_list (pv 3)) (pg_name (i := 4) nd rfl (.inl rfl))
      (pss_cons (ps_set (i := 8) nd rfl (.inl rfl) (pe_fn G__law_real hg (hr.mono (by decide)) T.d__law_real.kp T.d__law_real.m (by rfl) passL (pa_cons (pv 4) pa_nil)))
        (pss_cons (ps_set (i := 9) nd rfl (.inl rfl) (pe_lst (pa_cons (pe_cmpR (op_eq_tm T F hg hr9 passL) (pv 2) (pv 8) (nomark _)) (pa_cons (pe_cmpR (op_eq_tm T F hg hr9 passL) (pv 8) (pv 2) (nomark _)) (pa_cons (pe_cmpR (op_ne_tm T F hg hr10 passL) (pv 2) (pv 8) (nomark _)) pa_nil)))))
        (pss_one (ps_if (pt_cmpR op_ne (pe_callB (call_repr hg hu) (by rfl) T.z_repr (by decide +kernel) (pa_cons (pv 9) pa_nil)) (pe_callB (call_repr hg hu) (by rfl) T.z_repr (by decide +kernel) (pa_cons (pe_lst (pa_cons (pe_cmpR (op_eqP hu) (pv 4) (pv 6) (nomark _)) (pa_cons (pe_cmpR (op_eqP hu) (pv 4) (pv 6) (nomark _)) (pa_cons (pe_cmpR (op_neP hu) (pv 4) (pv 6) (nomark _)) pa_nil)))) pa_nil)) (nomark _)) (pss_one (ps_ret pe_bl)) pss_nil)))))
    (pss_cons (ps_set (i := 5) nd rfl (.inl rfl) (pe_lst (pa_cons (pe_callTy (call_str_tm T F hg hr11 passL) (by rfl) T.z_str (by decide +kernel) (pa_cons (pv 2) pa_nil)) (pa_cons (pe_callB (call_repr_tm T F hg hr10 passL) (by rfl) T.z_repr (by decide +kernel) (pa_cons (pv 2) pa_nil)) (pa_cons pe_non (pa_cons pe_int (pa_cons pe_str (pa_cons (pe_tup pa_nil) (pa_cons (pe_lst (pa_cons (pv 2) pa_nil)) (pa_cons (pe_tup (pa_cons (pv 2) pa_nil)) (pa_cons pe_dnewK (pa_cons pe_str (pa_cons pe_str pa_nil)))))))))))))
    (pss_cons (ps_if (pt_val (pe_callB (cr_any rfl) (by rfl) T.z_any (by decide +kernel) (pa_cons (pe_lc rfl (own := [("thing", 11)]) (g := gName 11) (by exact nd) (pi_list (pv 5)) (blkOk_by (own := [("thing", 11)]) (N := ["pot", "places", "made", "near", "model", "things", "term", "other", "twin", "told", "turn", "thing"]) (sc := defScope s__law_right) (by decide +kernel)) (fun _ _ _ _ _ => (pg_name (i := 11) nd rfl (.inl rfl))) (fun _ _ _ _ _ => pts_nil) (fun _ _ _ _ _ => (pe_or (pe_cmpR (op_eq_tm T F hg hr9 passL) (pv 2) (pv 11) (nomark _)) (pe_or (pe_cmpR (op_eq_right T F hg hr9 passL) (pv 11) (pv 2) (nomark _)) (pe_one (pe_not (pe_cmpR (op_ne_tm T F hg hr10 passL) (pv 2) (pv 11) (nomark _)))))))) pa_nil))) (pss_one (ps_ret pe_bl)) pss_nil)
    (pss_one (ps_ret (pe_and (pe_fn G__law_signs_right hg (hr.mono (by decide)) T.d__law_signs_right.kp T.d__law_signs_right.m (by rfl) passL (pa_cons (pv 2) (pa_cons (pv 6) (pa_cons (pv 7) pa_nil)))) (pe_one (pe_cmpR (op_eqP hu) (pe_lst (pa_cons (pe_callTy (call_str_tm T F hg hr11 passL) (by rfl) T.z_str (by decide +kernel) (pa_cons (pv 2) pa_nil)) (pa_cons (pe_callB (call_repr_tm T F hg hr10 passL) (by rfl) T.z_repr (by decide +kernel) (pa_cons (pv 2) pa_nil)) pa_nil))) (pe_lst (pa_cons (pe_fn G__law_text hg (hr.mono (by decide)) T.d__law_text.kp T.d__law_text.m (by rfl) passL (pa_cons (pv 6) pa_nil)) (pa_cons (pe_fn G__law_written hg (hr.mono (by decide)) T.d__law_written.kp T.d__law_written.m (by rfl) passL (pa_cons (pv 6) pa_nil)) pa_nil))) (nomark _))))))))))))))), ?_⟩
    refine ⟨.ref p, rfl, p, rfl, hp, fun l pls H1 hl0 hl p0 p5 hn x1 => ?_⟩
    have lp : l ≠ p := hp.ne hl0
    refine ⟨.ref p, rfl, .ref l, rfl, p, l, pls, 3, 3, rfl, rfl, by decide, x1.2, hl, lp, p0, p5, hn, fun tv t H2 ot dt tm2 x2 => ?_⟩
    refine ⟨.ref p, rfl, .ref l, rfl, p, l, pls, 2, 2, rfl, rfl, by decide, x2.2, x2.1 l _ lp hl, lp, p0, p5, hn, fun ov o H3 oo dd om3 x3 => ?_⟩
    refine ⟨(by show 2 ≤ sizeLine; decide), fun tq htq => ⟨tq, _, rfl, st_of upd_same, rfl, tv, _, rfl, ov, _, rfl, rfl, ?_⟩⟩
    have e34 : Ex H3 (upd H3 tq (.tup [tv, ov])) := Ex.new htq
    have x04 := ((x1.trans x2).trans x3).ex e34
    have l4 := (x2.trans x3 |>.ex e34).1 l _ lp hl
    have T4 : MdP (fun b => b ≠ p) t tv (upd H3 tq (.tup [tv, ov])) := (tm2.up (fun b s => show b ≠ p from fun z => x1.2.at (z ▸ s)) fun b o s e => x3.1 b o (fun z => x1.2.at (z ▸ s)) e).ex e34
    have O4 : MdP (fun b => b ≠ p) o ov (upd H3 tq (.tup [tv, ov])) := (om3.up (fun b s => show b ≠ p from fun z => x2.2.at (z ▸ s)) fun b o s e => e).ex e34
    generalize upd H3 tq (.tup [tv, ov]) = H4 at *
    clear tm2 om3 x2 x3 e34 htq
    refine q_asgP (ep_real rfl T4 ot (by omega)) fun mv H5 e5 mv5 => ?_
    have T5 := up_md _ t _ _ _ e5 T4
    refine q_when (b := false) (et_test (ev_neSS (el_lst (ea_cons (ev_strT (ev_var rfl) mv5 ot (by omega)) (ea_cons (ev_reprT (ev_var rfl) mv5 ot (by omega)) ea_nil)) (by show 2 ≤ 100000; decide)) (el_lst (ea_cons (ev_textM (ev_var rfl) T5 ot (by omega) (by omega)) (ea_cons (ev_writM (ev_var rfl) T5 ot (by omega) (by omega)) ea_nil)) (by show 2 ≤ 100000; decide)))) (fun z => nomatch z) fun _ H6 e6 => ?_
    have T6 := up_md _ t _ _ _ e6 T5
    have O6 := up_md _ o _ _ _ (e5.trans e6) O4
    have x06 := x04.ex (e5.trans e6)
    have hS : ∀ b H', Ex H6 H' → H' b = none → b ≠ p := fun b H' e n z => (x06.2.up e).at (z ▸ n)
    refine q_asgPs (eps_cons (up_md _ t) (ep_var (up_md _ t) rfl T6) (eps_cons (up_md _ o) (ep_var (up_md _ o) rfl O6) (eps_cons (up_md _ _) (ep_lesser hS (ep_var (up_md _ t) rfl T6) (ep_var (up_md _ t) rfl T6)) (eps_cons (up_md _ _) (ep_greater hS (ep_var (up_md _ t) rfl T6) (ep_var (up_md _ t) rfl T6)) eps_nil)))) (by show 4 ≤ 1000; decide) fun vs H7 n1 e7 hvs hn1 => ?_
    have e8 : Ex H7 (upd H7 n1 (.lst vs)) := Ex.new hn1
    have e48 : Ex H4 (upd H7 n1 (.lst vs)) := ((e5.trans e6).trans e7).trans e8
    have x08 := x04.ex e48
    have l8 := e48 _ _ l4
    have T8 := up_md _ t _ _ _ e48 T4
    have O8 := up_md _ o _ _ _ e48 O4
    have V8 := up_tm a t _ _ _ ((e6.trans e7).trans e8) mv5
    have n18 : (upd H7 n1 (.lst vs)) n1 = some (.lst vs) := upd_same
    have n1p : n1 ≠ p := (x06.2.up e7).ne hn1
    have hvs8 : A2 (fun v z => MdP (fun b => b ≠ p) z v (upd H7 n1 (.lst vs))) vs [t, o, .lesser [t, t], .greater [t, t]] := by
      match vs, hvs with
      | [v1, v2, v3, v4], ⟨h1, h2, h3, h4, _⟩ => exact ⟨up_md _ _ _ _ _ e8 h1, up_md _ _ _ _ _ e8 h2, up_md _ _ _ _ _ e8 h3, up_md _ _ _ _ _ e8 h4, trivial⟩
    generalize upd H7 n1 (.lst vs) = H8 at *
    clear hvs hS T6 O6 T5 x06 hn1 e8 e7 e6 mv5 e5 T4 O4
    refine ⟨.ref n1, rfl, 4, rfl, by decide, by decide, ?_⟩
    dsimp only
    refine lcR_inv (m := 4) (by decide) (fun _ => rfl) (fun D _ acc H' => WB p H8 D acc H') (fun D hD => ⟨fun b o _ bd e => by rw [upd_ne bd]; exact e, x08.2.up (Ex.new hD), [], trivial, fun z h => absurd h List.not_mem_nil⟩) ?_ ?_
    · rintro D i acc H' hD hi hlen ⟨fr, po, ts, hA, hok⟩ hx Q' k
      have Dp : D ≠ p := x08.ne hD
      have lD : l ≠ D := ne_of_none l8 hD
      have tD : TM.MdAt (fun b => b ≠ p ∧ b ≠ D ∧ H' b ≠ none) H' tv t := (md_tight T8).up (fun b s => by
        have bD : b ≠ D := fun z => s.2 (z ▸ hD)
        obtain ⟨ob, hb⟩ := Option.ne_none_iff_exists'.mp s.2
        exact ⟨s.1, bD, fun z => by rw [fr b ob s.1 bD hb] at z; cases z⟩) fun b ob s e => fr b ob s.1 (fun z => s.2 (z ▸ hD)) e
      refine ⟨.ref p, rfl, tv, rfl, .ref l, rfl, p, l, _, tv, t, pls, rfl, po, tD, fun b s => ⟨s.2.2, s.1⟩, ot, by omega, fr l _ lp lD l8, lp, p0, p5, hn, fun v' t' H5 ok' hd' hm' x5 => ?_⟩
      refine k v' H5 (x5.1 D _ Dp hx) ⟨fun b ob bp bD e => by rw [upd_ne bD]; exact x5.1 b ob bp (fr b ob bp bD e), ?_, ts ++ [t'], A2.app (hA.imp fun v z h => TM.MdAt.up (fun b s => s) (fun b ob s e => by rw [upd_ne s.2]; exact x5.1 b ob s.1 e) h) ⟨hm'.up (fun b s => ?_) fun b ob s e => ?_, trivial⟩, fun z hz => ?_⟩
      · obtain ⟨i1, i2, h1, h2⟩ := x5.2
        exact ⟨i1, i2, by rw [upd_ne (Ne.symm Dp)]; exact h1, h2⟩
      · rcases s with s | s
        · exact ⟨s.1, s.2.1⟩
        · exact ⟨fun z => po.at (z ▸ s), fun z => by rw [z, hx] at s; cases s⟩
      · have bD : b ≠ D := by
          rcases s with s | s
          · exact s.2.1
          · exact fun z => by rw [z, hx] at s; cases s
        rw [upd_ne bD]
        exact e
      · rcases List.mem_append.mp hz with hz | hz
        · exact hok z hz
        · rw [List.mem_singleton.mp hz]
          exact ⟨ok', by omega⟩
    · rintro D acc H' hD hlen ⟨fr, po, ts, hA, hok⟩ hx
      have n1D : n1 ≠ D := ne_of_none n18 hD
      have offD : ∀ {b : Addr} {ob : HO}, H8 b = some ob → b ≠ D := fun h => ne_of_none h hD
      have vl := hvs8.len
      refine ⟨n1, D, vs, acc, rfl, rfl, fr n1 _ n1p n1D n18, hx, sz_of (by rw [vl]; simp; omega), fun n2 hn2 => ?_⟩
      have e9 : Ex H' (upd H' n2 (.lst (vs ++ acc))) := Ex.new hn2
      have px8 : Px p H8 H' := ⟨fun b ob bp e => fr b ob bp (offD e) e, po⟩
      have x09 := (x08.trans px8).ex e9
      have mdU : ∀ {z : TM.Tree} {v : V}, MdP (fun b => b ≠ p) z v H8 → MdP (fun b => b ≠ p) z v (upd H' n2 (.lst (vs ++ acc))) := fun h => (TM.MdAt.up (fun b s => s) (fun b ob s e => px8.1 b ob s e) h).ex e9
      have T9 := mdU T8
      have O9 := mdU O8
      have V9 : TmP a t mv (upd H' n2 (.lst (vs ++ acc))) := by
        obtain ⟨i1, i2, h1, _⟩ := x08.2
        exact (TM.TmAt.upW h1 (fun b ob bp _ e => px8.1 b ob bp e) V8).up e9
      have all : ∀ x ∈ vs ++ acc, ∃ (S : Addr → Prop) (z : TM.Tree), MdP S z x (upd H' n2 (.lst (vs ++ acc))) ∧ TM.Ok z ∧ z.depth ≤ 4 := by
        intro x hx2
        rcases List.mem_append.mp hx2 with hx2 | hx2
        · obtain ⟨i, hi⟩ := List.mem_iff_getElem?.mp hx2
          have hi2 : i < [t, o, .lesser [t, t], .greater [t, t]].length := vl ▸ (List.getElem?_eq_some_iff.mp hi).1
          have hz := List.getElem?_eq_getElem hi2
          have hzm := List.getElem_mem hi2
          refine ⟨_, _, mdU (hvs8.get i _ _ hi hz), ?_⟩
          have two : ∀ u ∈ [t, t], TM.Ok u := fun u hu => by
            simp only [List.mem_cons, List.not_mem_nil, or_false, or_self] at hu
            rw [hu]
            exact ot
          generalize [t, o, TM.Tree.lesser [t, t], TM.Tree.greater [t, t]][i] = z at hzm
          simp only [List.mem_cons, List.not_mem_nil, or_false] at hzm
          rcases hzm with rfl | rfl | rfl | rfl
          · exact ⟨ot, by omega⟩
          · exact ⟨oo, by omega⟩
          · exact ⟨.lesser (.inl rfl) two, by simp only [TM.Tree.depth, TM.Tree.depthAll]; omega⟩
          · exact ⟨.greater (.inl rfl) two, by simp only [TM.Tree.depth, TM.Tree.depthAll]; omega⟩
        · obtain ⟨i, hi⟩ := List.mem_iff_getElem?.mp hx2
          have hi2 : i < ts.length := hA.len ▸ (List.getElem?_eq_some_iff.mp hi).1
          have hz := List.getElem?_eq_getElem hi2
          exact ⟨_, _, up_md _ _ _ _ _ e9 (hA.get i _ _ hi hz), hok _ (List.getElem_mem hi2)⟩
      have n9 : (upd H' n2 (.lst (vs ++ acc))) n2 = some (.lst (vs ++ acc)) := upd_same
      generalize upd H' n2 (.lst (vs ++ acc)) = H9 at *
      clear px8 fr po hA hok hx hvs8 V8 T8 O8 n18 e9
      refine q_forLn (ev_var rfl) (sq_of n9) (fun i σ' H' => Ex H9 H' ∧ ∃ m4 m8 m9, σ' = [some (.ref p), some (.ref l), some mv, some (.ref n2), m4, none, some tv, some ov, m8, m9, none, none]) (fun H1 e => ⟨e, none, none, none, rfl⟩) (fun i σ' H' _ h => sq_of (h.1 _ _ n9)) ?_ (fun σ' H10 h10 => ?_)
      · rintro i x σ' H10 hi ⟨e10, m4, m8, m9, rfl⟩
        obtain ⟨S, z, hz, oz, dz⟩ := all x (List.mem_of_getElem? hi)
        have Z10 := up_md S z _ _ _ e10 hz
        refine q_asgP (ep_real rfl Z10 oz (by omega)) fun tw H11 e11 W11 => ?_
        have e911 := e10.trans e11
        have V11 := up_tm a t _ _ _ e911 V9
        have Z11 := up_md S z _ _ _ e11 Z10
        have T11 := up_md _ t _ _ _ e911 T9
        refine q_asgL (el_lst (ea_cons (ev_eqTm (ev_var rfl) (ev_var rfl) V11 W11 ot oz (by omega) (by omega)) (ea_cons (ev_eqTm (ev_var rfl) (ev_var rfl) W11 V11 oz ot (by omega) (by omega)) (ea_cons (ev_neTm (ev_var rfl) (ev_var rfl) V11 W11 ot oz (by omega) (by omega)) ea_nil))) (by show 3 ≤ 100000; decide)) fun td H12 htd e12 h12 => ?_
        rw [TM.eqv_symm t z] at h12
        have Z12 := up_md S z _ _ _ e12 Z11
        have T12 := up_md _ t _ _ _ e12 T11
        refine s_when (b := false) (et_neF (x := .str (PyData.shown (.list [.bool (PyData.eqv (TM.mdl z) (TM.mdl t)), .bool (PyData.eqv (TM.mdl z) (TM.mdl t)), .bool (!PyData.eqv (TM.mdl z) (TM.mdl t))])))
          (ev_repr (ev_var rfl) (fun H1 e => dp_3b (e _ _ h12)) (shows3 _ _ _))
          (ev_reprL (el_lst (ea_cons (ev_eqM (ev_var rfl) (ev_var rfl) Z12 T12 (by omega)) (ea_cons (ev_eqM (ev_var rfl) (ev_var rfl) Z12 T12 (by omega)) (ea_cons (ev_neM (ev_var rfl) (ev_var rfl) Z12 T12 (by omega)) ea_nil))) (by show 3 ≤ 100000; decide)) (fun q H1 e hq => dp_3b hq) (shows3 _ _ _)) rfl) (fun z => nomatch z) fun _ H13 e13 => ⟨(e911.trans e12).trans e13, _, _, _, rfl⟩
      · obtain ⟨e10, m4, m8, m9, rfl⟩ := h10
        have V10 := up_tm a t _ _ _ e10 V9
        have T10 := up_md _ t _ _ _ e10 T9
        have O10 := up_md _ o _ _ _ e10 O9
        have vk : ∀ {x : V} {k : String}, (∀ H, Kd H x k) → KdP x H10 := fun h => ⟨_, h H10⟩
        have vm : EvP (tVar 2) [some (.ref p), some (.ref l), some mv, some (.ref n2), m4, none, some tv, some ov, m8, m9, none, none] H10 (TmP a t) := ep_var (up_tm a t) rfl V10
        refine q_asgPs (eps_cons up_kd (ep_of up_kd (ev_strT (ev_var rfl) V10 ot (by omega)) ⟨_, .str _⟩) (eps_cons up_kd (ep_of up_kd (ev_reprT (ev_var rfl) V10 ot (by omega)) ⟨_, .str _⟩) (eps_cons up_kd (ep_of up_kd ev_c ⟨_, .non⟩) (eps_cons up_kd (ep_of up_kd ev_c ⟨_, .int _⟩) (eps_cons up_kd (ep_of up_kd ev_c ⟨_, .str _⟩) (eps_cons up_kd ep_tup0 (eps_cons up_kd (ep_lst vm) (eps_cons up_kd (ep_tup vm) (eps_cons up_kd ep_dic0 (eps_cons up_kd (ep_of up_kd ev_c ⟨_, .str _⟩) (eps_cons up_kd (ep_of up_kd ev_c ⟨_, .str _⟩) eps_nil))))))))))) (by show 11 ≤ 1000; decide) fun ks H11 kl e11 hks hkl => ?_
        have e12 : Ex H11 (upd H11 kl (.lst ks)) := Ex.new hkl
        have kl12 : (upd H11 kl (.lst ks)) kl = some (.lst ks) := upd_same
        have kd : ∀ x ∈ ks, KdP x (upd H11 kl (.lst ks)) := fun x hx => by
          obtain ⟨i, hi⟩ := List.mem_iff_getElem?.mp hx
          have hi2 : i < (List.replicate 11 KdP).length := hks.len ▸ (List.getElem?_eq_some_iff.mp hi).1
          have hz := hks.get i _ _ hi (List.getElem?_eq_getElem hi2)
          have : (List.replicate 11 KdP)[i] = KdP := List.getElem_replicate ..
          exact up_kd _ _ _ e12 (this ▸ hz)
        have kn : ks.length = 11 := hks.len
        have e1012 := e11.trans e12
        have V12 := up_tm a t _ _ _ e1012 V10
        have T12 := up_md _ t _ _ _ e1012 T10
        have O12 := up_md _ o _ _ _ e1012 O10
        have x12 := x09.ex (e10.trans e1012)
        generalize upd H11 kl (.lst ks) = H12 at *
        have L : EvL (tLc (iList K (tVar 5)) (gName 11) tYes (tOrV (tOp (rEqT a) (tVar 2) (tVar 11)) (tOrV (tOp (rEqR a) (tVar 11) (tVar 2)) (tNotV (tOp (rNeT a) (tVar 2) (tVar 11))))) [11]) [some (.ref p), some (.ref l), some mv, some (.ref n2), m4, some (.ref kl), some tv, some ov, m8, m9, none, none] H12 ((List.replicate 11 false).map V.bl) := by
          refine el_lmap (ev_var rfl) (sq_of kl12) (by omega) (by rw [List.length_map, List.length_replicate]; exact kn) (fun _ => rfl) (fun i x y H13 e13 hi hy => ?_)
          have hy2 : y = .bl false := by
            rw [List.map_replicate] at hy
            obtain ⟨_, h⟩ := List.getElem?_eq_some_iff.mp hy
            rw [← h]
            exact List.getElem_replicate ..
          subst hy2
          have V13 := up_tm a t _ _ _ e13 V12
          have K13 := up_kd _ _ _ e13 (kd x (List.mem_of_getElem? hi))
          exact ev_is (ev_orV (a := false) (b := false) (ev_eqK (ev_var rfl) (ev_var rfl) V13 K13 ot (by omega)) fun _ => ev_is (ev_orV (a := false) (b := false) (ev_eqRK (ev_var rfl) (ev_var rfl) V13 K13 ot (by omega)) fun _ => ev_is (ev_notV (ev_neK (ev_var rfl) (ev_var rfl) V13 K13 ot (by omega))) rfl) rfl) rfl
        refine q_when (b := false) (et_is (et_test (ev_any L)) (by decide)) (fun z => nomatch z) fun _ H13 e13 => ?_
        have V13 := up_tm a t _ _ _ e13 V12
        have T13 := up_md _ t _ _ _ e13 T12
        have O13 := up_md _ o _ _ _ e13 O12
        refine s_ret (v := .bl true) (ev_is (ev_andV (a := true) (b := true) (ev_fn (ea_cons (ev_var rfl) (ea_cons (ev_var rfl) (ea_cons (ev_var rfl) ea_nil))) fun H14 e14 Q q E => ⟨_, mv, tv, ov, t, o, rfl, up_tm a t _ _ _ e14 V13, up_md _ t _ _ _ e14 T13, up_md _ o _ _ _ e14 O13, ot, oo, by omega, by omega, fun H' e' => q H' e'⟩) fun _ =>
          ev_eqSS (el_lst (ea_cons (ev_strT (ev_var rfl) V13 ot (by omega)) (ea_cons (ev_reprT (ev_var rfl) V13 ot (by omega)) ea_nil)) (by show 2 ≤ 100000; decide)) (el_lst (ea_cons (ev_textM (ev_var rfl) T13 ot (by omega) (by omega)) (ea_cons (ev_writM (ev_var rfl) T13 ot (by omega) (by omega)) ea_nil)) (by show 2 ≤ 100000; decide))) rfl) fun H14 e14 => q H14 (x12.ex (e13.trans e14))
end
end K13
namespace K13
open PySem PySem.Spec PyProof.Rows L2 LG Evl
section
variable {K : PySem.W.Frag} {σ : L2.St} {H : Hp} {te ta : TE}
/-- all([e for j in range(n)]), each e True -/
theorem all_R1 {ta : TA} {j : Nat} {n : Int} (h : EvA ta σ H [.int n]) (hn : 0 ≤ n ∧ n ≤ 1000) (hw : ∀ x, wipe ((wipe σ [j]).set j (some x)) [j] = wipe σ [j]) (W : Addr → Hp → Prop) (h0 : ∀ H1 Dl, Ex H H1 → H1 Dl = none → W Dl (upd H1 Dl (.lst [])))
    (hs : ∀ (i : Nat) (Dl : Addr) (H' : Hp) (zs : List V), (i : Int) < n → W Dl H' → H' Dl = some (.lst zs) → ∀ Q' : VK, (∀ H2, H2 Dl = some (.lst zs) → W Dl (upd H2 Dl (.lst (zs ++ [.bl true]))) → Q' (.bl true) H2) → te ((wipe σ [j]).set j (some (.int (i : Int)))) H' Q')
    {D : Ends} (q : ∀ H', D.rt (.bl true) H') : tRet (tCB (rAll K) (tCons (tLc (iRng1 ta) (gName j) tYes te [j]) tNil)) D σ H := h H (Ex.refl H) _ fun H1 e1 => ⟨n, rfl, by omega, by omega, fun Dl hD =>
  lc_range (lo := 0) (n := n.toNat) (fun i H' => H' Dl = some (.lst (List.replicate i (.bl true))) ∧ W Dl H') ⟨upd_same, h0 H1 Dl e1 hD⟩ (fun i H' hi p => by
    have e0 : (0 : Int) + (i : Int) = (i : Int) := Int.zero_add _
    show wipe ((wipe σ [j]).set j (some (.int ((0 : Int) + (i : Int))))) [j] = wipe σ [j] ∧ te ((wipe σ [j]).set j (some (.int ((0 : Int) + (i : Int))))) H' fun y H4 => ∃ acc, H4 Dl = some (.lst acc) ∧ acc.length < sizeLine ∧ (upd H4 Dl (.lst (acc ++ [y]))) Dl = some (.lst (List.replicate (i + 1) (.bl true))) ∧ W Dl (upd H4 Dl (.lst (acc ++ [y])))
    rw [e0]
    refine ⟨hw _, hs i Dl H' _ (by omega) p.2 p.1 _ fun H2 h2 w2 => ⟨_, h2, sz_lt (by rw [List.length_replicate]; omega), ?_, w2⟩⟩
    rw [upd_same, List.replicate_succ'])
    (fun H' p => ⟨Dl, List.replicate n.toNat true, rfl, sq_of (by rw [p.1, List.map_replicate]), by
      have e : (List.replicate n.toNat true).all id = true := by
        rw [List.all_eq_true]
        intro b hb
        exact (List.mem_replicate.mp hb).2
      rw [e]
      exact q H'⟩)⟩
end
section
variable {P : Program} {w : World} {K : PySem.W.Frag} {mg : Str → Option Value} {base : Heap} {a : At}
def sp_law (K : PySem.W.Frag) : Sp := fun vs H Q _ => ∃ (l : Addr) (ns : List Int), vs = [.ref l] ∧ SqL K H l (ns.map V.int) ∧ ns.length ≤ 63 ∧ ∀ H', Q (.bl true) H'
theorem ok_law (T : Txt K mg a) (F : Files P K a) : Fn P w K mg base 16 a.law (sp_law K) := by
  have G__law_pot : Fn P w K mg base 1 a._law_pot (sp__law_pot K) := ok__law_pot T
  have G__law_right : Fn P w K mg base 15 a._law_right sp__law_right := ok__law_right T F
  refine T.d_law.fn sc_law (fun _ _ _ _ _ _ us hl => match us, hl with | [_], _ => rfl) (fun vs H Q E h => ?_) (fun cdv A outer s H vs Q E hg hr h => ?_)
  · obtain ⟨_, _, rfl, _⟩ := h
    rfl
  · obtain ⟨l, ns, rfl, hs, hlen, q⟩ := h
    have nd := sc_law.nd
    refine ⟨_, (pss_one (ps_ret (pe_callB (cr_all rfl) (by rfl) T.z_all (by decide +kernel) (pa_cons (pe_lc rfl (own := [("k", 1)]) (g := gName 1) (by exact nd) (pi_range1 (by rfl) T.z_range (pa_cons (pe_callB (call_max2 rfl) (by rfl) T.z_max (by decide +kernel) (pa_cons pe_int (pa_cons (pe_callB (call_min2 rfl) (by rfl) T.z_min (by decide +kernel) (pa_cons (pe_callB call_len_seq (by rfl) T.z_len (by decide +kernel) (pa_cons (pv 0) pa_nil)) (pa_cons pe_int pa_nil))) pa_nil))) pa_nil)) (blkOk_by (own := [("k", 1)]) (N := ["script", "k"]) (sc := defScope s_law) (by decide +kernel)) (fun _ _ _ _ _ => (pg_name (i := 1) nd rfl (.inl rfl))) (fun _ _ _ _ _ => pts_nil) (fun _ _ _ _ _ => (pe_fn G__law_right hg (hr.mono (by decide)) T.d__law_right.kp T.d__law_right.m (by rfl) passL (pa_cons (pe_fn G__law_pot hg (hr.mono (by decide)) T.d__law_pot.kp T.d__law_pot.m (by rfl) passL (pa_cons (pv 0) (pa_cons (pv 1) pa_nil))) pa_nil)))) pa_nil)))), ?_⟩
    have stays : ∀ H', (∀ o, H l = some o → H' l = some o) → SqL K H' l (ns.map V.int) := fun H' h => by
      rcases hs with (h1 | ⟨ob, h1⟩) | h1
      · exact .inl (.inl (h _ h1))
      · exact .inl (.inr ⟨ob, h _ h1⟩)
      · exact .inr h1
    refine all_R1 (K := K) (σ := [some (.ref l), none]) (j := 1) (D := { nx := fun _ H' => Q .non H', rt := Q }) (n := if (if (5 : Int) < (ns.map V.int).length then 5 else ((ns.map V.int).length : Int)) > 1 then (if (5 : Int) < (ns.map V.int).length then 5 else ((ns.map V.int).length : Int)) else 1) ?_ ?_ (fun _ => rfl) (fun Dl H' => ∀ o, H l = some o → H' l = some o ∧ l ≠ Dl) (fun H1 Dl e1 hD => fun o ho => ⟨Ex.new hD l _ (e1 l _ ho), ne_of_none (e1 l _ ho) hD⟩) (fun i Dl H' zs hi st hD Q' q' => ?_) q
    · exact fun H1 e1 Q1 q1 => ⟨.ref l, rfl, l, _, rfl, .inl (ex_l e1 hs), _, 5, rfl, 1, _, rfl, q1 H1 (Ex.refl H1)⟩
    · rw [List.length_map]
      split <;> split <;> omega
    · refine ⟨.ref l, rfl, .int i, rfl, l, ns, i, rfl, stays H' (fun o ho => (st o ho).1), hlen, ?_, fun p H1 hp e1 po1 => ⟨p, rfl, po1, fun H2 px => ?_⟩⟩
      · rw [List.length_map] at hi
        split at hi <;> split at hi <;> omega
      · have Dp : Dl ≠ p := ne_of_none hD hp
        have h2 := px.1 Dl _ Dp (e1 Dl _ hD)
        refine q' H2 h2 fun o ho => ?_
        obtain ⟨hl, hne⟩ := st o ho
        have nlp : l ≠ p := ne_of_none hl hp
        refine ⟨?_, hne⟩
        rw [upd_ne hne]
        exact px.1 l o nlp (e1 l _ hl)
end
end K13
namespace K13
open PySem PySem.Spec PyProof.Rows L2 LG
theorem gfn_of {K : PySem.W.Frag} {h : Heap} {mg : Str → Option Value} (X : K.In h) (G : h.Ns mainGlobals mg) {x : Str} {st : Stmt} {f : Addr} {od an : Option Addr} {sl : Array (Option Value)} {oc kV dc pm cd ct : Value}
    (n : PySem.W.nsIn K mainGlobals x = some (some (.ref f))) (l : K.lookup f = some ⟨oc, od, .func (PySem.W.fnOf x x (defArgs st) (defBody st) (defScope st) .none kV dc pm an cd ct), sl⟩) (c : PySem.W.codeIn K cd x = true) (k : PySem.W.keepIn K (.ref f) = true) : GFn K mg x st f :=
  ⟨PySem.W.mg_of X G n, _, fun_mk l c k⟩
theorem gex_of {K : PySem.W.Frag} {h : Heap} {mg : Str → Option Value} (X : K.In h) (G : h.Ns mainGlobals mg) {x : Str} {C fI : Addr} {nm : Str} {q : Str} {N : Addr} {bs bm : List Value} {sn : List Str} {sub : List Value} {ab : Bool} {col : Option Bool} {dd : Option Addr}
    {k0 k1 k2 k3 k5 : Option Value}
    (n : PySem.W.nsIn K mainGlobals x = some (some (.ref C))) (l : K.lookup C = some (PySem.excClassObj nm q C N bs bm true sn sub ab col dd k0 k1 k2 k3 k5 "ValueError.__new__")) (r : PySem.HandSPX.refsVE bm = true)
    (sa : PySem.W.findIn K (.ref C) "__setattr__" = some (some (.builtin "object.__setattr__"))) (e1 : PySem.W.subIn K (.ref C) (.type "BaseException") = some true) (e2 : PySem.W.typeIn K (.ref C) = some (.type "type")) (e3 : PySem.W.keepIn K (.ref C) = true)
    (i : PySem.W.findIn K (.ref C) "__init__" = some (some (.ref fI))) (v : PySem.W.findIn K (.ref C) "value" = some none)
    (ga : PySem.W.findIn K (.ref C) "__getattribute__" = some (some (.builtin "BaseException.__getattribute__"))) (gg : PySem.W.findIn K (.ref C) "__getattr__" = some none) (hd : PySem.W.hasDictIn K C = true)
    (ha : PySem.W.findIn K (.ref C) "__class__" = some (some (.builtin "object.__class__"))) (hn : PySem.W.specialIn K (.builtin "object.__class__") "__get__" = some (some (.builtin "getset_descriptor.__get__"))) (ht : PySem.W.takesIn K (.builtin "object.__class__") = some true) (hm : PySem.W.mroIn K C (.type "object") = some true) : GEx K mg x C fI :=
  ⟨PySem.W.mg_of X G n, ⟨⟨nm, q, N, bs, bm, sn, sub, ab, col, dd, k0, k1, k2, k3, k5, l, r⟩, sa, e1, e2, e3⟩, i, v, ⟨ga, gg, e1, hd⟩, ⟨ga, gg, e1, hd, ha, hn, ht, hm⟩⟩
theorem cls_some {K : PySem.W.Frag} {C : Addr} (h : PySem.W.selfFirst K C = true) : PySem.W.clsIn K C ≠ none := fun z => by
  unfold PySem.W.selfFirst at h
  rw [z] at h
  cases h
theorem all_facts {K : PySem.W.Frag} {mg : Str → Option Value} {w : World} {h : Heap} {fa : Addr} (l : PySem.W.OpenLaw) (X : K.In h) (G : h.Ns mainGlobals mg) (hmg : mg "law" = some (.ref fa))
  {f__wall f_is_integer f_is_end f_is_value f_is_not_less f_least_of f_greatest_of f_is_place f_want_term f_want_terms f_depth_above f_want_values f_value_at f_places_in f_term_text f_term_repr f__law_pot f__law_draw f__law_pick f__law_places f__law_term f__law_joined f__law_real f__law_inner f__law_text f__law_written f__law_bent f__law_signs_right f__law_right f_law g_ENDS g_PLACES f_init TD C_HeldError C_InvalidPlace C_InvalidEnd C_InvalidTerm C_InvalidValues k_Term k_Place k_End k_Lesser k_Greater m_Term_init m_Term_depth p_Term_depth m_Term_at m_Term_places m_Term_turned m_Term_put m_Term_and m_Term_or m_Term_str m_Term_repr m_Term_eq m_Place_init w_Place_init o_Place_init m_Place_name p_Place_name m_End_init w_End_init o_End_init m_End_end p_End_end m_Lesser_init w_Lesser_init o_Lesser_init m_Lesser_parts p_Lesser_parts m_Greater_init w_Greater_init o_Greater_init m_Greater_parts p_Greater_parts : Addr}
  {t_BOTTOM t_TOP t_LEAST_PARTS t_ENDS_0 t_ENDS_1 t_PLACES_0 t_PLACES_1 t_PLACES_2 t_PLACES_3 t_PLACES_4 t_PLACES_5 t_PLACES_6 t_PLACES_7 : Tok}
  {od__wall an__wall od_is_integer an_is_integer od_is_end an_is_end od_is_value an_is_value od_is_not_less an_is_not_less od_least_of an_least_of od_greatest_of an_greatest_of od_is_place an_is_place od_want_term an_want_term od_want_terms an_want_terms od_depth_above an_depth_above od_want_values an_want_values od_value_at an_value_at od_places_in an_places_in od_term_text an_term_text od_term_repr an_term_repr od__law_pot an__law_pot od__law_draw an__law_draw od__law_pick an__law_pick od__law_places an__law_places od__law_term an__law_term od__law_joined an__law_joined od__law_real an__law_real od__law_inner an__law_inner od__law_text an__law_text od__law_written an__law_written od__law_bent an__law_bent od__law_signs_right an__law_signs_right od__law_right an__law_right od_law an_law od_ENDS od_PLACES od_init an_init odD od_Term_init an_Term_init od_Term_depth an_Term_depth od_Term_at an_Term_at od_Term_places an_Term_places od_Term_turned an_Term_turned od_Term_put an_Term_put od_Term_and an_Term_and od_Term_or an_Term_or od_Term_str an_Term_str od_Term_repr an_Term_repr od_Term_eq an_Term_eq od_Place_init an_Place_init odo_Place_init odw_Place_init od_Place_name an_Place_name od_End_init an_End_init odo_End_init odw_End_init od_End_end an_End_end od_Lesser_init an_Lesser_init odo_Lesser_init odw_Lesser_init od_Lesser_parts an_Lesser_parts od_Greater_init an_Greater_init odo_Greater_init odw_Greater_init od_Greater_parts an_Greater_parts dd_HeldError dd_InvalidPlace dd_InvalidEnd dd_InvalidTerm dd_InvalidValues : Option Addr}
  {sl__wall sl_is_integer sl_is_end sl_is_value sl_is_not_less sl_least_of sl_greatest_of sl_is_place sl_want_term sl_want_terms sl_depth_above sl_want_values sl_value_at sl_places_in sl_term_text sl_term_repr sl__law_pot sl__law_draw sl__law_pick sl__law_places sl__law_term sl__law_joined sl__law_real sl__law_inner sl__law_text sl__law_written sl__law_bent sl__law_signs_right sl__law_right sl_law sl_ENDS sl_PLACES sl_init slD sl_Term_init sl_Term_depth sl_Term_at sl_Term_places sl_Term_turned sl_Term_put sl_Term_and sl_Term_or sl_Term_str sl_Term_repr sl_Term_eq sl_Place_init slo_Place_init slw_Place_init sl_Place_name sl_End_init slo_End_init slw_End_init sl_End_end sl_Lesser_init slo_Lesser_init slw_Lesser_init sl_Lesser_parts sl_Greater_init slo_Greater_init slw_Greater_init sl_Greater_parts : Array (Option Value)}
  {oc__wall kV__wall dc__wall pm__wall ct__wall cd__wall oc_is_integer kV_is_integer dc_is_integer pm_is_integer ct_is_integer cd_is_integer oc_is_end kV_is_end dc_is_end pm_is_end ct_is_end cd_is_end oc_is_value kV_is_value dc_is_value pm_is_value ct_is_value cd_is_value oc_is_not_less kV_is_not_less dc_is_not_less pm_is_not_less ct_is_not_less cd_is_not_less oc_least_of kV_least_of dc_least_of pm_least_of ct_least_of cd_least_of oc_greatest_of kV_greatest_of dc_greatest_of pm_greatest_of ct_greatest_of cd_greatest_of oc_is_place kV_is_place dc_is_place pm_is_place ct_is_place cd_is_place oc_want_term kV_want_term dc_want_term pm_want_term ct_want_term cd_want_term oc_want_terms kV_want_terms dc_want_terms pm_want_terms ct_want_terms cd_want_terms oc_depth_above kV_depth_above dc_depth_above pm_depth_above ct_depth_above cd_depth_above oc_want_values kV_want_values dc_want_values pm_want_values ct_want_values cd_want_values oc_value_at kV_value_at dc_value_at pm_value_at ct_value_at cd_value_at oc_places_in kV_places_in dc_places_in pm_places_in ct_places_in cd_places_in oc_term_text kV_term_text dc_term_text pm_term_text ct_term_text cd_term_text oc_term_repr kV_term_repr dc_term_repr pm_term_repr ct_term_repr cd_term_repr oc__law_pot kV__law_pot dc__law_pot pm__law_pot ct__law_pot cd__law_pot oc__law_draw kV__law_draw dc__law_draw pm__law_draw ct__law_draw cd__law_draw oc__law_pick kV__law_pick dc__law_pick pm__law_pick ct__law_pick cd__law_pick oc__law_places kV__law_places dc__law_places pm__law_places ct__law_places cd__law_places oc__law_term kV__law_term dc__law_term pm__law_term ct__law_term cd__law_term oc__law_joined kV__law_joined dc__law_joined pm__law_joined ct__law_joined cd__law_joined oc__law_real kV__law_real dc__law_real pm__law_real ct__law_real cd__law_real oc__law_inner kV__law_inner dc__law_inner pm__law_inner ct__law_inner cd__law_inner oc__law_text kV__law_text dc__law_text pm__law_text ct__law_text cd__law_text oc__law_written kV__law_written dc__law_written pm__law_written ct__law_written cd__law_written oc__law_bent kV__law_bent dc__law_bent pm__law_bent ct__law_bent cd__law_bent oc__law_signs_right kV__law_signs_right dc__law_signs_right pm__law_signs_right ct__law_signs_right cd__law_signs_right oc__law_right kV__law_right dc__law_right pm__law_right ct__law_right cd__law_right oc_law kV_law dc_law pm_law ct_law cd_law oc_init kV_init dc_init pm_init ct_init cd_init ocD oc_Term_init kV_Term_init dc_Term_init pm_Term_init ct_Term_init cd_Term_init oc_Term_depth kV_Term_depth dc_Term_depth pm_Term_depth ct_Term_depth cd_Term_depth oc_Term_at kV_Term_at dc_Term_at pm_Term_at ct_Term_at cd_Term_at oc_Term_places kV_Term_places dc_Term_places pm_Term_places ct_Term_places cd_Term_places oc_Term_turned kV_Term_turned dc_Term_turned pm_Term_turned ct_Term_turned cd_Term_turned oc_Term_put kV_Term_put dc_Term_put pm_Term_put ct_Term_put cd_Term_put oc_Term_and kV_Term_and dc_Term_and pm_Term_and ct_Term_and cd_Term_and oc_Term_or kV_Term_or dc_Term_or pm_Term_or ct_Term_or cd_Term_or oc_Term_str kV_Term_str dc_Term_str pm_Term_str ct_Term_str cd_Term_str oc_Term_repr kV_Term_repr dc_Term_repr pm_Term_repr ct_Term_repr cd_Term_repr oc_Term_eq kV_Term_eq dc_Term_eq pm_Term_eq ct_Term_eq cd_Term_eq oc_Place_init kV_Place_init dc_Place_init pm_Place_init ct_Place_init oco_Place_init ocw_Place_init oc_Place_name kV_Place_name dc_Place_name pm_Place_name ct_Place_name cd_Place_name oc_End_init kV_End_init dc_End_init pm_End_init ct_End_init oco_End_init ocw_End_init oc_End_end kV_End_end dc_End_end pm_End_end ct_End_end cd_End_end oc_Lesser_init kV_Lesser_init dc_Lesser_init pm_Lesser_init ct_Lesser_init oco_Lesser_init ocw_Lesser_init oc_Lesser_parts kV_Lesser_parts dc_Lesser_parts pm_Lesser_parts ct_Lesser_parts cd_Lesser_parts oc_Greater_init kV_Greater_init dc_Greater_init pm_Greater_init ct_Greater_init oco_Greater_init ocw_Greater_init oc_Greater_parts kV_Greater_parts dc_Greater_parts pm_Greater_parts ct_Greater_parts cd_Greater_parts : Value}
  {n_ENDS n_PLACES nD : Nat}
  {rest_Term_depth : List Value} {vs_Place_init : Array Value} {tx_Place_init : Str} {tf_Place_init : Tok} {rest_Place_name : List Value} {vs_End_init : Array Value} {tx_End_init : Str} {tf_End_init : Tok} {rest_End_end : List Value} {vs_Lesser_init : Array Value} {tx_Lesser_init : Str} {tf_Lesser_init : Tok} {rest_Lesser_parts : List Value} {vs_Greater_init : Array Value} {tx_Greater_init : Str} {tf_Greater_init : Tok} {rest_Greater_parts : List Value}
  {nm_HeldError q_HeldError nm_InvalidPlace q_InvalidPlace nm_InvalidEnd q_InvalidEnd nm_InvalidTerm q_InvalidTerm nm_InvalidValues q_InvalidValues : Str} {N_HeldError N_InvalidPlace N_InvalidEnd N_InvalidTerm N_InvalidValues : Addr} {bs_HeldError bm_HeldError bs_InvalidPlace bm_InvalidPlace bs_InvalidEnd bm_InvalidEnd bs_InvalidTerm bm_InvalidTerm bs_InvalidValues bm_InvalidValues : List Value} {sn_HeldError sn_InvalidPlace sn_InvalidEnd sn_InvalidTerm sn_InvalidValues : List Str} {sub_HeldError sub_InvalidPlace sub_InvalidEnd sub_InvalidTerm sub_InvalidValues : List Value} {ab_HeldError ab_InvalidPlace ab_InvalidEnd ab_InvalidTerm ab_InvalidValues : Bool} {col_HeldError col_InvalidPlace col_InvalidEnd col_InvalidTerm col_InvalidValues : Option Bool} {k0_HeldError k1_HeldError k2_HeldError k3_HeldError k5_HeldError k0_InvalidPlace k1_InvalidPlace k2_InvalidPlace k3_InvalidPlace k5_InvalidPlace k0_InvalidEnd k1_InvalidEnd k2_InvalidEnd k3_InvalidEnd k5_InvalidEnd k0_InvalidTerm k1_InvalidTerm k2_InvalidTerm k3_InvalidTerm k5_InvalidTerm k0_InvalidValues k1_InvalidValues k2_InvalidValues k3_InvalidValues k5_InvalidValues : Option Value}
  (h_n__wall : PySem.W.nsIn K mainGlobals "_wall" = some (some (.ref f__wall)))
  (h_l__wall : K.lookup f__wall = some ⟨oc__wall, od__wall, .func (PySem.W.fnOf "_wall" "_wall" (defArgs s__wall) (defBody s__wall) (defScope s__wall) .none kV__wall dc__wall pm__wall an__wall cd__wall ct__wall), sl__wall⟩)
  (h_c__wall : PySem.W.codeIn K cd__wall "_wall" = true)
  (h_k__wall : PySem.W.keepIn K (.ref f__wall) = true)
  (h_n_is_integer : PySem.W.nsIn K mainGlobals "is_integer" = some (some (.ref f_is_integer)))
  (h_l_is_integer : K.lookup f_is_integer = some ⟨oc_is_integer, od_is_integer, .func (PySem.W.fnOf "is_integer" "is_integer" (defArgs s_is_integer) (defBody s_is_integer) (defScope s_is_integer) .none kV_is_integer dc_is_integer pm_is_integer an_is_integer cd_is_integer ct_is_integer), sl_is_integer⟩)
  (h_c_is_integer : PySem.W.codeIn K cd_is_integer "is_integer" = true)
  (h_k_is_integer : PySem.W.keepIn K (.ref f_is_integer) = true)
  (h_n_is_end : PySem.W.nsIn K mainGlobals "is_end" = some (some (.ref f_is_end)))
  (h_l_is_end : K.lookup f_is_end = some ⟨oc_is_end, od_is_end, .func (PySem.W.fnOf "is_end" "is_end" (defArgs s_is_end) (defBody s_is_end) (defScope s_is_end) .none kV_is_end dc_is_end pm_is_end an_is_end cd_is_end ct_is_end), sl_is_end⟩)
  (h_c_is_end : PySem.W.codeIn K cd_is_end "is_end" = true)
  (h_k_is_end : PySem.W.keepIn K (.ref f_is_end) = true)
  (h_n_is_value : PySem.W.nsIn K mainGlobals "is_value" = some (some (.ref f_is_value)))
  (h_l_is_value : K.lookup f_is_value = some ⟨oc_is_value, od_is_value, .func (PySem.W.fnOf "is_value" "is_value" (defArgs s_is_value) (defBody s_is_value) (defScope s_is_value) .none kV_is_value dc_is_value pm_is_value an_is_value cd_is_value ct_is_value), sl_is_value⟩)
  (h_c_is_value : PySem.W.codeIn K cd_is_value "is_value" = true)
  (h_k_is_value : PySem.W.keepIn K (.ref f_is_value) = true)
  (h_n_is_not_less : PySem.W.nsIn K mainGlobals "is_not_less" = some (some (.ref f_is_not_less)))
  (h_l_is_not_less : K.lookup f_is_not_less = some ⟨oc_is_not_less, od_is_not_less, .func (PySem.W.fnOf "is_not_less" "is_not_less" (defArgs s_is_not_less) (defBody s_is_not_less) (defScope s_is_not_less) .none kV_is_not_less dc_is_not_less pm_is_not_less an_is_not_less cd_is_not_less ct_is_not_less), sl_is_not_less⟩)
  (h_c_is_not_less : PySem.W.codeIn K cd_is_not_less "is_not_less" = true)
  (h_k_is_not_less : PySem.W.keepIn K (.ref f_is_not_less) = true)
  (h_n_least_of : PySem.W.nsIn K mainGlobals "least_of" = some (some (.ref f_least_of)))
  (h_l_least_of : K.lookup f_least_of = some ⟨oc_least_of, od_least_of, .func (PySem.W.fnOf "least_of" "least_of" (defArgs s_least_of) (defBody s_least_of) (defScope s_least_of) .none kV_least_of dc_least_of pm_least_of an_least_of cd_least_of ct_least_of), sl_least_of⟩)
  (h_c_least_of : PySem.W.codeIn K cd_least_of "least_of" = true)
  (h_k_least_of : PySem.W.keepIn K (.ref f_least_of) = true)
  (h_n_greatest_of : PySem.W.nsIn K mainGlobals "greatest_of" = some (some (.ref f_greatest_of)))
  (h_l_greatest_of : K.lookup f_greatest_of = some ⟨oc_greatest_of, od_greatest_of, .func (PySem.W.fnOf "greatest_of" "greatest_of" (defArgs s_greatest_of) (defBody s_greatest_of) (defScope s_greatest_of) .none kV_greatest_of dc_greatest_of pm_greatest_of an_greatest_of cd_greatest_of ct_greatest_of), sl_greatest_of⟩)
  (h_c_greatest_of : PySem.W.codeIn K cd_greatest_of "greatest_of" = true)
  (h_k_greatest_of : PySem.W.keepIn K (.ref f_greatest_of) = true)
  (h_n_is_place : PySem.W.nsIn K mainGlobals "is_place" = some (some (.ref f_is_place)))
  (h_l_is_place : K.lookup f_is_place = some ⟨oc_is_place, od_is_place, .func (PySem.W.fnOf "is_place" "is_place" (defArgs s_is_place) (defBody s_is_place) (defScope s_is_place) .none kV_is_place dc_is_place pm_is_place an_is_place cd_is_place ct_is_place), sl_is_place⟩)
  (h_c_is_place : PySem.W.codeIn K cd_is_place "is_place" = true)
  (h_k_is_place : PySem.W.keepIn K (.ref f_is_place) = true)
  (h_n_want_term : PySem.W.nsIn K mainGlobals "want_term" = some (some (.ref f_want_term)))
  (h_l_want_term : K.lookup f_want_term = some ⟨oc_want_term, od_want_term, .func (PySem.W.fnOf "want_term" "want_term" (defArgs s_want_term) (defBody s_want_term) (defScope s_want_term) .none kV_want_term dc_want_term pm_want_term an_want_term cd_want_term ct_want_term), sl_want_term⟩)
  (h_c_want_term : PySem.W.codeIn K cd_want_term "want_term" = true)
  (h_k_want_term : PySem.W.keepIn K (.ref f_want_term) = true)
  (h_n_want_terms : PySem.W.nsIn K mainGlobals "want_terms" = some (some (.ref f_want_terms)))
  (h_l_want_terms : K.lookup f_want_terms = some ⟨oc_want_terms, od_want_terms, .func (PySem.W.fnOf "want_terms" "want_terms" (defArgs s_want_terms) (defBody s_want_terms) (defScope s_want_terms) .none kV_want_terms dc_want_terms pm_want_terms an_want_terms cd_want_terms ct_want_terms), sl_want_terms⟩)
  (h_c_want_terms : PySem.W.codeIn K cd_want_terms "want_terms" = true)
  (h_k_want_terms : PySem.W.keepIn K (.ref f_want_terms) = true)
  (h_n_depth_above : PySem.W.nsIn K mainGlobals "depth_above" = some (some (.ref f_depth_above)))
  (h_l_depth_above : K.lookup f_depth_above = some ⟨oc_depth_above, od_depth_above, .func (PySem.W.fnOf "depth_above" "depth_above" (defArgs s_depth_above) (defBody s_depth_above) (defScope s_depth_above) .none kV_depth_above dc_depth_above pm_depth_above an_depth_above cd_depth_above ct_depth_above), sl_depth_above⟩)
  (h_c_depth_above : PySem.W.codeIn K cd_depth_above "depth_above" = true)
  (h_k_depth_above : PySem.W.keepIn K (.ref f_depth_above) = true)
  (h_n_want_values : PySem.W.nsIn K mainGlobals "want_values" = some (some (.ref f_want_values)))
  (h_l_want_values : K.lookup f_want_values = some ⟨oc_want_values, od_want_values, .func (PySem.W.fnOf "want_values" "want_values" (defArgs s_want_values) (defBody s_want_values) (defScope s_want_values) .none kV_want_values dc_want_values pm_want_values an_want_values cd_want_values ct_want_values), sl_want_values⟩)
  (h_c_want_values : PySem.W.codeIn K cd_want_values "want_values" = true)
  (h_k_want_values : PySem.W.keepIn K (.ref f_want_values) = true)
  (h_n_value_at : PySem.W.nsIn K mainGlobals "value_at" = some (some (.ref f_value_at)))
  (h_l_value_at : K.lookup f_value_at = some ⟨oc_value_at, od_value_at, .func (PySem.W.fnOf "value_at" "value_at" (defArgs s_value_at) (defBody s_value_at) (defScope s_value_at) .none kV_value_at dc_value_at pm_value_at an_value_at cd_value_at ct_value_at), sl_value_at⟩)
  (h_c_value_at : PySem.W.codeIn K cd_value_at "value_at" = true)
  (h_k_value_at : PySem.W.keepIn K (.ref f_value_at) = true)
  (h_n_places_in : PySem.W.nsIn K mainGlobals "places_in" = some (some (.ref f_places_in)))
  (h_l_places_in : K.lookup f_places_in = some ⟨oc_places_in, od_places_in, .func (PySem.W.fnOf "places_in" "places_in" (defArgs s_places_in) (defBody s_places_in) (defScope s_places_in) .none kV_places_in dc_places_in pm_places_in an_places_in cd_places_in ct_places_in), sl_places_in⟩)
  (h_c_places_in : PySem.W.codeIn K cd_places_in "places_in" = true)
  (h_k_places_in : PySem.W.keepIn K (.ref f_places_in) = true)
  (h_n_term_text : PySem.W.nsIn K mainGlobals "term_text" = some (some (.ref f_term_text)))
  (h_l_term_text : K.lookup f_term_text = some ⟨oc_term_text, od_term_text, .func (PySem.W.fnOf "term_text" "term_text" (defArgs s_term_text) (defBody s_term_text) (defScope s_term_text) .none kV_term_text dc_term_text pm_term_text an_term_text cd_term_text ct_term_text), sl_term_text⟩)
  (h_c_term_text : PySem.W.codeIn K cd_term_text "term_text" = true)
  (h_k_term_text : PySem.W.keepIn K (.ref f_term_text) = true)
  (h_n_term_repr : PySem.W.nsIn K mainGlobals "term_repr" = some (some (.ref f_term_repr)))
  (h_l_term_repr : K.lookup f_term_repr = some ⟨oc_term_repr, od_term_repr, .func (PySem.W.fnOf "term_repr" "term_repr" (defArgs s_term_repr) (defBody s_term_repr) (defScope s_term_repr) .none kV_term_repr dc_term_repr pm_term_repr an_term_repr cd_term_repr ct_term_repr), sl_term_repr⟩)
  (h_c_term_repr : PySem.W.codeIn K cd_term_repr "term_repr" = true)
  (h_k_term_repr : PySem.W.keepIn K (.ref f_term_repr) = true)
  (h_n__law_pot : PySem.W.nsIn K mainGlobals "_law_pot" = some (some (.ref f__law_pot)))
  (h_l__law_pot : K.lookup f__law_pot = some ⟨oc__law_pot, od__law_pot, .func (PySem.W.fnOf "_law_pot" "_law_pot" (defArgs s__law_pot) (defBody s__law_pot) (defScope s__law_pot) .none kV__law_pot dc__law_pot pm__law_pot an__law_pot cd__law_pot ct__law_pot), sl__law_pot⟩)
  (h_c__law_pot : PySem.W.codeIn K cd__law_pot "_law_pot" = true)
  (h_k__law_pot : PySem.W.keepIn K (.ref f__law_pot) = true)
  (h_n__law_draw : PySem.W.nsIn K mainGlobals "_law_draw" = some (some (.ref f__law_draw)))
  (h_l__law_draw : K.lookup f__law_draw = some ⟨oc__law_draw, od__law_draw, .func (PySem.W.fnOf "_law_draw" "_law_draw" (defArgs s__law_draw) (defBody s__law_draw) (defScope s__law_draw) .none kV__law_draw dc__law_draw pm__law_draw an__law_draw cd__law_draw ct__law_draw), sl__law_draw⟩)
  (h_c__law_draw : PySem.W.codeIn K cd__law_draw "_law_draw" = true)
  (h_k__law_draw : PySem.W.keepIn K (.ref f__law_draw) = true)
  (h_n__law_pick : PySem.W.nsIn K mainGlobals "_law_pick" = some (some (.ref f__law_pick)))
  (h_l__law_pick : K.lookup f__law_pick = some ⟨oc__law_pick, od__law_pick, .func (PySem.W.fnOf "_law_pick" "_law_pick" (defArgs s__law_pick) (defBody s__law_pick) (defScope s__law_pick) .none kV__law_pick dc__law_pick pm__law_pick an__law_pick cd__law_pick ct__law_pick), sl__law_pick⟩)
  (h_c__law_pick : PySem.W.codeIn K cd__law_pick "_law_pick" = true)
  (h_k__law_pick : PySem.W.keepIn K (.ref f__law_pick) = true)
  (h_n__law_places : PySem.W.nsIn K mainGlobals "_law_places" = some (some (.ref f__law_places)))
  (h_l__law_places : K.lookup f__law_places = some ⟨oc__law_places, od__law_places, .func (PySem.W.fnOf "_law_places" "_law_places" (defArgs s__law_places) (defBody s__law_places) (defScope s__law_places) .none kV__law_places dc__law_places pm__law_places an__law_places cd__law_places ct__law_places), sl__law_places⟩)
  (h_c__law_places : PySem.W.codeIn K cd__law_places "_law_places" = true)
  (h_k__law_places : PySem.W.keepIn K (.ref f__law_places) = true)
  (h_n__law_term : PySem.W.nsIn K mainGlobals "_law_term" = some (some (.ref f__law_term)))
  (h_l__law_term : K.lookup f__law_term = some ⟨oc__law_term, od__law_term, .func (PySem.W.fnOf "_law_term" "_law_term" (defArgs s__law_term) (defBody s__law_term) (defScope s__law_term) .none kV__law_term dc__law_term pm__law_term an__law_term cd__law_term ct__law_term), sl__law_term⟩)
  (h_c__law_term : PySem.W.codeIn K cd__law_term "_law_term" = true)
  (h_k__law_term : PySem.W.keepIn K (.ref f__law_term) = true)
  (h_n__law_joined : PySem.W.nsIn K mainGlobals "_law_joined" = some (some (.ref f__law_joined)))
  (h_l__law_joined : K.lookup f__law_joined = some ⟨oc__law_joined, od__law_joined, .func (PySem.W.fnOf "_law_joined" "_law_joined" (defArgs s__law_joined) (defBody s__law_joined) (defScope s__law_joined) .none kV__law_joined dc__law_joined pm__law_joined an__law_joined cd__law_joined ct__law_joined), sl__law_joined⟩)
  (h_c__law_joined : PySem.W.codeIn K cd__law_joined "_law_joined" = true)
  (h_k__law_joined : PySem.W.keepIn K (.ref f__law_joined) = true)
  (h_n__law_real : PySem.W.nsIn K mainGlobals "_law_real" = some (some (.ref f__law_real)))
  (h_l__law_real : K.lookup f__law_real = some ⟨oc__law_real, od__law_real, .func (PySem.W.fnOf "_law_real" "_law_real" (defArgs s__law_real) (defBody s__law_real) (defScope s__law_real) .none kV__law_real dc__law_real pm__law_real an__law_real cd__law_real ct__law_real), sl__law_real⟩)
  (h_c__law_real : PySem.W.codeIn K cd__law_real "_law_real" = true)
  (h_k__law_real : PySem.W.keepIn K (.ref f__law_real) = true)
  (h_n__law_inner : PySem.W.nsIn K mainGlobals "_law_inner" = some (some (.ref f__law_inner)))
  (h_l__law_inner : K.lookup f__law_inner = some ⟨oc__law_inner, od__law_inner, .func (PySem.W.fnOf "_law_inner" "_law_inner" (defArgs s__law_inner) (defBody s__law_inner) (defScope s__law_inner) .none kV__law_inner dc__law_inner pm__law_inner an__law_inner cd__law_inner ct__law_inner), sl__law_inner⟩)
  (h_c__law_inner : PySem.W.codeIn K cd__law_inner "_law_inner" = true)
  (h_k__law_inner : PySem.W.keepIn K (.ref f__law_inner) = true)
  (h_n__law_text : PySem.W.nsIn K mainGlobals "_law_text" = some (some (.ref f__law_text)))
  (h_l__law_text : K.lookup f__law_text = some ⟨oc__law_text, od__law_text, .func (PySem.W.fnOf "_law_text" "_law_text" (defArgs s__law_text) (defBody s__law_text) (defScope s__law_text) .none kV__law_text dc__law_text pm__law_text an__law_text cd__law_text ct__law_text), sl__law_text⟩)
  (h_c__law_text : PySem.W.codeIn K cd__law_text "_law_text" = true)
  (h_k__law_text : PySem.W.keepIn K (.ref f__law_text) = true)
  (h_n__law_written : PySem.W.nsIn K mainGlobals "_law_written" = some (some (.ref f__law_written)))
  (h_l__law_written : K.lookup f__law_written = some ⟨oc__law_written, od__law_written, .func (PySem.W.fnOf "_law_written" "_law_written" (defArgs s__law_written) (defBody s__law_written) (defScope s__law_written) .none kV__law_written dc__law_written pm__law_written an__law_written cd__law_written ct__law_written), sl__law_written⟩)
  (h_c__law_written : PySem.W.codeIn K cd__law_written "_law_written" = true)
  (h_k__law_written : PySem.W.keepIn K (.ref f__law_written) = true)
  (h_n__law_bent : PySem.W.nsIn K mainGlobals "_law_bent" = some (some (.ref f__law_bent)))
  (h_l__law_bent : K.lookup f__law_bent = some ⟨oc__law_bent, od__law_bent, .func (PySem.W.fnOf "_law_bent" "_law_bent" (defArgs s__law_bent) (defBody s__law_bent) (defScope s__law_bent) .none kV__law_bent dc__law_bent pm__law_bent an__law_bent cd__law_bent ct__law_bent), sl__law_bent⟩)
  (h_c__law_bent : PySem.W.codeIn K cd__law_bent "_law_bent" = true)
  (h_k__law_bent : PySem.W.keepIn K (.ref f__law_bent) = true)
  (h_n__law_signs_right : PySem.W.nsIn K mainGlobals "_law_signs_right" = some (some (.ref f__law_signs_right)))
  (h_l__law_signs_right : K.lookup f__law_signs_right = some ⟨oc__law_signs_right, od__law_signs_right, .func (PySem.W.fnOf "_law_signs_right" "_law_signs_right" (defArgs s__law_signs_right) (defBody s__law_signs_right) (defScope s__law_signs_right) .none kV__law_signs_right dc__law_signs_right pm__law_signs_right an__law_signs_right cd__law_signs_right ct__law_signs_right), sl__law_signs_right⟩)
  (h_c__law_signs_right : PySem.W.codeIn K cd__law_signs_right "_law_signs_right" = true)
  (h_k__law_signs_right : PySem.W.keepIn K (.ref f__law_signs_right) = true)
  (h_n__law_right : PySem.W.nsIn K mainGlobals "_law_right" = some (some (.ref f__law_right)))
  (h_l__law_right : K.lookup f__law_right = some ⟨oc__law_right, od__law_right, .func (PySem.W.fnOf "_law_right" "_law_right" (defArgs s__law_right) (defBody s__law_right) (defScope s__law_right) .none kV__law_right dc__law_right pm__law_right an__law_right cd__law_right ct__law_right), sl__law_right⟩)
  (h_c__law_right : PySem.W.codeIn K cd__law_right "_law_right" = true)
  (h_k__law_right : PySem.W.keepIn K (.ref f__law_right) = true)
  (h_n_law : PySem.W.nsIn K mainGlobals "law" = some (some (.ref f_law)))
  (h_l_law : K.lookup f_law = some ⟨oc_law, od_law, .func (PySem.W.fnOf "law" "law" (defArgs s_law) (defBody s_law) (defScope s_law) .none kV_law dc_law pm_law an_law cd_law ct_law), sl_law⟩)
  (h_c_law : PySem.W.codeIn K cd_law "law" = true)
  (h_k_law : PySem.W.keepIn K (.ref f_law) = true)
  (h_z_abs : PySem.W.nsIn K mainGlobals "abs" = some none)
  (h_z_all : PySem.W.nsIn K mainGlobals "all" = some none)
  (h_z_any : PySem.W.nsIn K mainGlobals "any" = some none)
  (h_z_bool : PySem.W.nsIn K mainGlobals "bool" = some none)
  (h_z_dict : PySem.W.nsIn K mainGlobals "dict" = some none)
  (h_z_divmod : PySem.W.nsIn K mainGlobals "divmod" = some none)
  (h_z_int : PySem.W.nsIn K mainGlobals "int" = some none)
  (h_z_isinstance : PySem.W.nsIn K mainGlobals "isinstance" = some none)
  (h_z_len : PySem.W.nsIn K mainGlobals "len" = some none)
  (h_z_list : PySem.W.nsIn K mainGlobals "list" = some none)
  (h_z_max : PySem.W.nsIn K mainGlobals "max" = some none)
  (h_z_min : PySem.W.nsIn K mainGlobals "min" = some none)
  (h_z_property : PySem.W.nsIn K mainGlobals "property" = some none)
  (h_z_range : PySem.W.nsIn K mainGlobals "range" = some none)
  (h_z_repr : PySem.W.nsIn K mainGlobals "repr" = some none)
  (h_z_sorted : PySem.W.nsIn K mainGlobals "sorted" = some none)
  (h_z_str : PySem.W.nsIn K mainGlobals "str" = some none)
  (h_z_super : PySem.W.nsIn K mainGlobals "super" = some none)
  (h_v_BOTTOM : PySem.W.nsIn K mainGlobals "BOTTOM" = some (some (.str "bottom" t_BOTTOM)))
  (h_v_TOP : PySem.W.nsIn K mainGlobals "TOP" = some (some (.str "top" t_TOP)))
  (h_v_LEAST_PARTS : PySem.W.nsIn K mainGlobals "LEAST_PARTS" = some (some (.int 2 t_LEAST_PARTS)))
  (h_v_ENDS : PySem.W.nsIn K mainGlobals "ENDS" = some (some (.ref g_ENDS)))
  (h_l_ENDS : K.lookup g_ENDS = some ⟨.type "tuple", od_ENDS, .seq #[.str "bottom" t_ENDS_0, .str "top" t_ENDS_1] n_ENDS, sl_ENDS⟩)
  (h_v_PLACES : PySem.W.nsIn K mainGlobals "PLACES" = some (some (.ref g_PLACES)))
  (h_l_PLACES : K.lookup g_PLACES = some ⟨.type "tuple", od_PLACES, .seq #[.str "r0" t_PLACES_0, .str "r1" t_PLACES_1, .str "r2" t_PLACES_2, .str "r3" t_PLACES_3, .str "r4" t_PLACES_4, .str "r5" t_PLACES_5, .str "x0" t_PLACES_6, .str "x1" t_PLACES_7] n_PLACES, sl_PLACES⟩)
  (e_hn : PySem.W.specialIn K (.builtin "object.__class__") "__get__" = some (some (.builtin "getset_descriptor.__get__")))
  (e_ht : PySem.W.takesIn K (.builtin "object.__class__") = some true)
  (e_n_HeldError : PySem.W.nsIn K mainGlobals "HeldError" = some (some (.ref C_HeldError)))
  (e_l_HeldError : K.lookup C_HeldError = some (PySem.excClassObj nm_HeldError q_HeldError C_HeldError N_HeldError bs_HeldError bm_HeldError true sn_HeldError sub_HeldError ab_HeldError col_HeldError dd_HeldError k0_HeldError k1_HeldError k2_HeldError k3_HeldError k5_HeldError "ValueError.__new__"))
  (e_r_HeldError : PySem.HandSPX.refsVE bm_HeldError = true)
  (e_sa_HeldError : PySem.W.findIn K (.ref C_HeldError) "__setattr__" = some (some (.builtin "object.__setattr__")))
  (e_e1_HeldError : PySem.W.subIn K (.ref C_HeldError) (.type "BaseException") = some true)
  (e_e2_HeldError : PySem.W.typeIn K (.ref C_HeldError) = some (.type "type"))
  (e_e3_HeldError : PySem.W.keepIn K (.ref C_HeldError) = true)
  (e_i_HeldError : PySem.W.findIn K (.ref C_HeldError) "__init__" = some (some (.ref f_init)))
  (e_v_HeldError : PySem.W.findIn K (.ref C_HeldError) "value" = some none)
  (e_ga_HeldError : PySem.W.findIn K (.ref C_HeldError) "__getattribute__" = some (some (.builtin "BaseException.__getattribute__")))
  (e_gg_HeldError : PySem.W.findIn K (.ref C_HeldError) "__getattr__" = some none)
  (e_hd_HeldError : PySem.W.hasDictIn K C_HeldError = true)
  (e_ha_HeldError : PySem.W.findIn K (.ref C_HeldError) "__class__" = some (some (.builtin "object.__class__")))
  (e_hm_HeldError : PySem.W.mroIn K C_HeldError (.type "object") = some true)
  (e_n_InvalidPlace : PySem.W.nsIn K mainGlobals "InvalidPlace" = some (some (.ref C_InvalidPlace)))
  (e_l_InvalidPlace : K.lookup C_InvalidPlace = some (PySem.excClassObj nm_InvalidPlace q_InvalidPlace C_InvalidPlace N_InvalidPlace bs_InvalidPlace bm_InvalidPlace true sn_InvalidPlace sub_InvalidPlace ab_InvalidPlace col_InvalidPlace dd_InvalidPlace k0_InvalidPlace k1_InvalidPlace k2_InvalidPlace k3_InvalidPlace k5_InvalidPlace "ValueError.__new__"))
  (e_r_InvalidPlace : PySem.HandSPX.refsVE bm_InvalidPlace = true)
  (e_sa_InvalidPlace : PySem.W.findIn K (.ref C_InvalidPlace) "__setattr__" = some (some (.builtin "object.__setattr__")))
  (e_e1_InvalidPlace : PySem.W.subIn K (.ref C_InvalidPlace) (.type "BaseException") = some true)
  (e_e2_InvalidPlace : PySem.W.typeIn K (.ref C_InvalidPlace) = some (.type "type"))
  (e_e3_InvalidPlace : PySem.W.keepIn K (.ref C_InvalidPlace) = true)
  (e_i_InvalidPlace : PySem.W.findIn K (.ref C_InvalidPlace) "__init__" = some (some (.ref f_init)))
  (e_v_InvalidPlace : PySem.W.findIn K (.ref C_InvalidPlace) "value" = some none)
  (e_ga_InvalidPlace : PySem.W.findIn K (.ref C_InvalidPlace) "__getattribute__" = some (some (.builtin "BaseException.__getattribute__")))
  (e_gg_InvalidPlace : PySem.W.findIn K (.ref C_InvalidPlace) "__getattr__" = some none)
  (e_hd_InvalidPlace : PySem.W.hasDictIn K C_InvalidPlace = true)
  (e_ha_InvalidPlace : PySem.W.findIn K (.ref C_InvalidPlace) "__class__" = some (some (.builtin "object.__class__")))
  (e_hm_InvalidPlace : PySem.W.mroIn K C_InvalidPlace (.type "object") = some true)
  (e_n_InvalidEnd : PySem.W.nsIn K mainGlobals "InvalidEnd" = some (some (.ref C_InvalidEnd)))
  (e_l_InvalidEnd : K.lookup C_InvalidEnd = some (PySem.excClassObj nm_InvalidEnd q_InvalidEnd C_InvalidEnd N_InvalidEnd bs_InvalidEnd bm_InvalidEnd true sn_InvalidEnd sub_InvalidEnd ab_InvalidEnd col_InvalidEnd dd_InvalidEnd k0_InvalidEnd k1_InvalidEnd k2_InvalidEnd k3_InvalidEnd k5_InvalidEnd "ValueError.__new__"))
  (e_r_InvalidEnd : PySem.HandSPX.refsVE bm_InvalidEnd = true)
  (e_sa_InvalidEnd : PySem.W.findIn K (.ref C_InvalidEnd) "__setattr__" = some (some (.builtin "object.__setattr__")))
  (e_e1_InvalidEnd : PySem.W.subIn K (.ref C_InvalidEnd) (.type "BaseException") = some true)
  (e_e2_InvalidEnd : PySem.W.typeIn K (.ref C_InvalidEnd) = some (.type "type"))
  (e_e3_InvalidEnd : PySem.W.keepIn K (.ref C_InvalidEnd) = true)
  (e_i_InvalidEnd : PySem.W.findIn K (.ref C_InvalidEnd) "__init__" = some (some (.ref f_init)))
  (e_v_InvalidEnd : PySem.W.findIn K (.ref C_InvalidEnd) "value" = some none)
  (e_ga_InvalidEnd : PySem.W.findIn K (.ref C_InvalidEnd) "__getattribute__" = some (some (.builtin "BaseException.__getattribute__")))
  (e_gg_InvalidEnd : PySem.W.findIn K (.ref C_InvalidEnd) "__getattr__" = some none)
  (e_hd_InvalidEnd : PySem.W.hasDictIn K C_InvalidEnd = true)
  (e_ha_InvalidEnd : PySem.W.findIn K (.ref C_InvalidEnd) "__class__" = some (some (.builtin "object.__class__")))
  (e_hm_InvalidEnd : PySem.W.mroIn K C_InvalidEnd (.type "object") = some true)
  (e_n_InvalidTerm : PySem.W.nsIn K mainGlobals "InvalidTerm" = some (some (.ref C_InvalidTerm)))
  (e_l_InvalidTerm : K.lookup C_InvalidTerm = some (PySem.excClassObj nm_InvalidTerm q_InvalidTerm C_InvalidTerm N_InvalidTerm bs_InvalidTerm bm_InvalidTerm true sn_InvalidTerm sub_InvalidTerm ab_InvalidTerm col_InvalidTerm dd_InvalidTerm k0_InvalidTerm k1_InvalidTerm k2_InvalidTerm k3_InvalidTerm k5_InvalidTerm "ValueError.__new__"))
  (e_r_InvalidTerm : PySem.HandSPX.refsVE bm_InvalidTerm = true)
  (e_sa_InvalidTerm : PySem.W.findIn K (.ref C_InvalidTerm) "__setattr__" = some (some (.builtin "object.__setattr__")))
  (e_e1_InvalidTerm : PySem.W.subIn K (.ref C_InvalidTerm) (.type "BaseException") = some true)
  (e_e2_InvalidTerm : PySem.W.typeIn K (.ref C_InvalidTerm) = some (.type "type"))
  (e_e3_InvalidTerm : PySem.W.keepIn K (.ref C_InvalidTerm) = true)
  (e_i_InvalidTerm : PySem.W.findIn K (.ref C_InvalidTerm) "__init__" = some (some (.ref f_init)))
  (e_v_InvalidTerm : PySem.W.findIn K (.ref C_InvalidTerm) "value" = some none)
  (e_ga_InvalidTerm : PySem.W.findIn K (.ref C_InvalidTerm) "__getattribute__" = some (some (.builtin "BaseException.__getattribute__")))
  (e_gg_InvalidTerm : PySem.W.findIn K (.ref C_InvalidTerm) "__getattr__" = some none)
  (e_hd_InvalidTerm : PySem.W.hasDictIn K C_InvalidTerm = true)
  (e_ha_InvalidTerm : PySem.W.findIn K (.ref C_InvalidTerm) "__class__" = some (some (.builtin "object.__class__")))
  (e_hm_InvalidTerm : PySem.W.mroIn K C_InvalidTerm (.type "object") = some true)
  (e_n_InvalidValues : PySem.W.nsIn K mainGlobals "InvalidValues" = some (some (.ref C_InvalidValues)))
  (e_l_InvalidValues : K.lookup C_InvalidValues = some (PySem.excClassObj nm_InvalidValues q_InvalidValues C_InvalidValues N_InvalidValues bs_InvalidValues bm_InvalidValues true sn_InvalidValues sub_InvalidValues ab_InvalidValues col_InvalidValues dd_InvalidValues k0_InvalidValues k1_InvalidValues k2_InvalidValues k3_InvalidValues k5_InvalidValues "ValueError.__new__"))
  (e_r_InvalidValues : PySem.HandSPX.refsVE bm_InvalidValues = true)
  (e_sa_InvalidValues : PySem.W.findIn K (.ref C_InvalidValues) "__setattr__" = some (some (.builtin "object.__setattr__")))
  (e_e1_InvalidValues : PySem.W.subIn K (.ref C_InvalidValues) (.type "BaseException") = some true)
  (e_e2_InvalidValues : PySem.W.typeIn K (.ref C_InvalidValues) = some (.type "type"))
  (e_e3_InvalidValues : PySem.W.keepIn K (.ref C_InvalidValues) = true)
  (e_i_InvalidValues : PySem.W.findIn K (.ref C_InvalidValues) "__init__" = some (some (.ref f_init)))
  (e_v_InvalidValues : PySem.W.findIn K (.ref C_InvalidValues) "value" = some none)
  (e_ga_InvalidValues : PySem.W.findIn K (.ref C_InvalidValues) "__getattribute__" = some (some (.builtin "BaseException.__getattribute__")))
  (e_gg_InvalidValues : PySem.W.findIn K (.ref C_InvalidValues) "__getattr__" = some none)
  (e_hd_InvalidValues : PySem.W.hasDictIn K C_InvalidValues = true)
  (e_ha_InvalidValues : PySem.W.findIn K (.ref C_InvalidValues) "__class__" = some (some (.builtin "object.__class__")))
  (e_hm_InvalidValues : PySem.W.mroIn K C_InvalidValues (.type "object") = some true)
  (h_ti : PySem.W.typeIn K (.ref f_init) = some (.type "function"))
  (h_il : K.lookup f_init = some ⟨oc_init, od_init, .func (PySem.W.fnOf "__init__" "HeldError.__init__" (defArgs s_init) (defBody s_init) (defScope s_init) (.ref TD) kV_init dc_init pm_init an_init cd_init ct_init), sl_init⟩)
  (h_ic : PySem.W.codeIn K cd_init "HeldError.__init__" = true)
  (h_ik : PySem.W.keepIn K (.ref f_init) = true)
  (h_iD : K.lookup TD = some ⟨ocD, odD, .seq #[.none] nD, slD⟩)
  (h_any : PySem.W.nsIn K cStatics "thirdparty.any" = some none)
  (h_n_Term : PySem.W.nsIn K mainGlobals "Term" = some (some (.ref k_Term)))
  (c_pg_Term : PySem.W.plainGet K k_Term Str.empty = true)
  (c_hd_Term : PySem.W.hasDictIn K k_Term = true)
  (c_po_Term : PySem.W.plainOver K k_Term = true)
  (c_sa_Term : PySem.W.findIn K (.ref k_Term) "__setattr__" = some (some (.builtin "object.__setattr__")))
  (c_ha_Term : PySem.W.findIn K (.ref k_Term) "__class__" = some (some (.builtin "object.__class__")))
  (c_hm_Term : PySem.W.mroIn K k_Term (.type "object") = some true)
  (c_ne_Term : PySem.W.findIn K (.ref k_Term) "__ne__" = some (some (.builtin "object.__ne__")))
  (c_ty_Term : PySem.W.typeIn K (.ref k_Term) = some (.type "type"))
  (c_sf_Term : PySem.W.selfFirst K k_Term = true)
  (h_n_Place : PySem.W.nsIn K mainGlobals "Place" = some (some (.ref k_Place)))
  (c_pg_Place : PySem.W.plainGet K k_Place Str.empty = true)
  (c_hd_Place : PySem.W.hasDictIn K k_Place = true)
  (c_po_Place : PySem.W.plainOver K k_Place = true)
  (c_sa_Place : PySem.W.findIn K (.ref k_Place) "__setattr__" = some (some (.builtin "object.__setattr__")))
  (c_ha_Place : PySem.W.findIn K (.ref k_Place) "__class__" = some (some (.builtin "object.__class__")))
  (c_hm_Place : PySem.W.mroIn K k_Place (.type "object") = some true)
  (c_ne_Place : PySem.W.findIn K (.ref k_Place) "__ne__" = some (some (.builtin "object.__ne__")))
  (c_ty_Place : PySem.W.typeIn K (.ref k_Place) = some (.type "type"))
  (c_sf_Place : PySem.W.selfFirst K k_Place = true)
  (h_n_End : PySem.W.nsIn K mainGlobals "End" = some (some (.ref k_End)))
  (c_pg_End : PySem.W.plainGet K k_End Str.empty = true)
  (c_hd_End : PySem.W.hasDictIn K k_End = true)
  (c_po_End : PySem.W.plainOver K k_End = true)
  (c_sa_End : PySem.W.findIn K (.ref k_End) "__setattr__" = some (some (.builtin "object.__setattr__")))
  (c_ha_End : PySem.W.findIn K (.ref k_End) "__class__" = some (some (.builtin "object.__class__")))
  (c_hm_End : PySem.W.mroIn K k_End (.type "object") = some true)
  (c_ne_End : PySem.W.findIn K (.ref k_End) "__ne__" = some (some (.builtin "object.__ne__")))
  (c_ty_End : PySem.W.typeIn K (.ref k_End) = some (.type "type"))
  (c_sf_End : PySem.W.selfFirst K k_End = true)
  (h_n_Lesser : PySem.W.nsIn K mainGlobals "Lesser" = some (some (.ref k_Lesser)))
  (c_pg_Lesser : PySem.W.plainGet K k_Lesser Str.empty = true)
  (c_hd_Lesser : PySem.W.hasDictIn K k_Lesser = true)
  (c_po_Lesser : PySem.W.plainOver K k_Lesser = true)
  (c_sa_Lesser : PySem.W.findIn K (.ref k_Lesser) "__setattr__" = some (some (.builtin "object.__setattr__")))
  (c_ha_Lesser : PySem.W.findIn K (.ref k_Lesser) "__class__" = some (some (.builtin "object.__class__")))
  (c_hm_Lesser : PySem.W.mroIn K k_Lesser (.type "object") = some true)
  (c_ne_Lesser : PySem.W.findIn K (.ref k_Lesser) "__ne__" = some (some (.builtin "object.__ne__")))
  (c_ty_Lesser : PySem.W.typeIn K (.ref k_Lesser) = some (.type "type"))
  (c_sf_Lesser : PySem.W.selfFirst K k_Lesser = true)
  (h_n_Greater : PySem.W.nsIn K mainGlobals "Greater" = some (some (.ref k_Greater)))
  (c_pg_Greater : PySem.W.plainGet K k_Greater Str.empty = true)
  (c_hd_Greater : PySem.W.hasDictIn K k_Greater = true)
  (c_po_Greater : PySem.W.plainOver K k_Greater = true)
  (c_sa_Greater : PySem.W.findIn K (.ref k_Greater) "__setattr__" = some (some (.builtin "object.__setattr__")))
  (c_ha_Greater : PySem.W.findIn K (.ref k_Greater) "__class__" = some (some (.builtin "object.__class__")))
  (c_hm_Greater : PySem.W.mroIn K k_Greater (.type "object") = some true)
  (c_ne_Greater : PySem.W.findIn K (.ref k_Greater) "__ne__" = some (some (.builtin "object.__ne__")))
  (c_ty_Greater : PySem.W.typeIn K (.ref k_Greater) = some (.type "type"))
  (c_sf_Greater : PySem.W.selfFirst K k_Greater = true)
  (f_Term_init : PySem.W.findIn K (.ref k_Term) "__init__" = some (some (.ref m_Term_init)))
  (p_at_Term_depth : PySem.W.findIn K (.ref k_Term) "depth" = some (some (.ref p_Term_depth)))
  (f_Term_at : PySem.W.findIn K (.ref k_Term) "at" = some (some (.ref m_Term_at)))
  (f_Term_places : PySem.W.findIn K (.ref k_Term) "places" = some (some (.ref m_Term_places)))
  (f_Term_turned : PySem.W.findIn K (.ref k_Term) "turned" = some (some (.ref m_Term_turned)))
  (f_Term_put : PySem.W.findIn K (.ref k_Term) "put" = some (some (.ref m_Term_put)))
  (f_Term_and : PySem.W.findIn K (.ref k_Term) "__and__" = some (some (.ref m_Term_and)))
  (f_Term_or : PySem.W.findIn K (.ref k_Term) "__or__" = some (some (.ref m_Term_or)))
  (f_Term_str : PySem.W.findIn K (.ref k_Term) "__str__" = some (some (.ref m_Term_str)))
  (f_Term_repr : PySem.W.findIn K (.ref k_Term) "__repr__" = some (some (.ref m_Term_repr)))
  (f_Term_eq : PySem.W.findIn K (.ref k_Term) "__eq__" = some (some (.ref m_Term_eq)))
  (f_Place_init : PySem.W.findIn K (.ref k_Place) "__init__" = some (some (.ref m_Place_init)))
  (p_at_Place_name : PySem.W.findIn K (.ref k_Place) "name" = some (some (.ref p_Place_name)))
  (p_at_Place_depth : PySem.W.findIn K (.ref k_Place) "depth" = some (some (.ref p_Term_depth)))
  (f_Place_at : PySem.W.findIn K (.ref k_Place) "at" = some (some (.ref m_Term_at)))
  (f_Place_places : PySem.W.findIn K (.ref k_Place) "places" = some (some (.ref m_Term_places)))
  (f_Place_turned : PySem.W.findIn K (.ref k_Place) "turned" = some (some (.ref m_Term_turned)))
  (f_Place_put : PySem.W.findIn K (.ref k_Place) "put" = some (some (.ref m_Term_put)))
  (f_Place_and : PySem.W.findIn K (.ref k_Place) "__and__" = some (some (.ref m_Term_and)))
  (f_Place_or : PySem.W.findIn K (.ref k_Place) "__or__" = some (some (.ref m_Term_or)))
  (f_Place_str : PySem.W.findIn K (.ref k_Place) "__str__" = some (some (.ref m_Term_str)))
  (f_Place_repr : PySem.W.findIn K (.ref k_Place) "__repr__" = some (some (.ref m_Term_repr)))
  (f_Place_eq : PySem.W.findIn K (.ref k_Place) "__eq__" = some (some (.ref m_Term_eq)))
  (f_End_init : PySem.W.findIn K (.ref k_End) "__init__" = some (some (.ref m_End_init)))
  (p_at_End_end : PySem.W.findIn K (.ref k_End) "end" = some (some (.ref p_End_end)))
  (p_at_End_depth : PySem.W.findIn K (.ref k_End) "depth" = some (some (.ref p_Term_depth)))
  (f_End_at : PySem.W.findIn K (.ref k_End) "at" = some (some (.ref m_Term_at)))
  (f_End_places : PySem.W.findIn K (.ref k_End) "places" = some (some (.ref m_Term_places)))
  (f_End_turned : PySem.W.findIn K (.ref k_End) "turned" = some (some (.ref m_Term_turned)))
  (f_End_put : PySem.W.findIn K (.ref k_End) "put" = some (some (.ref m_Term_put)))
  (f_End_and : PySem.W.findIn K (.ref k_End) "__and__" = some (some (.ref m_Term_and)))
  (f_End_or : PySem.W.findIn K (.ref k_End) "__or__" = some (some (.ref m_Term_or)))
  (f_End_str : PySem.W.findIn K (.ref k_End) "__str__" = some (some (.ref m_Term_str)))
  (f_End_repr : PySem.W.findIn K (.ref k_End) "__repr__" = some (some (.ref m_Term_repr)))
  (f_End_eq : PySem.W.findIn K (.ref k_End) "__eq__" = some (some (.ref m_Term_eq)))
  (f_Lesser_init : PySem.W.findIn K (.ref k_Lesser) "__init__" = some (some (.ref m_Lesser_init)))
  (p_at_Lesser_parts : PySem.W.findIn K (.ref k_Lesser) "parts" = some (some (.ref p_Lesser_parts)))
  (p_at_Lesser_depth : PySem.W.findIn K (.ref k_Lesser) "depth" = some (some (.ref p_Term_depth)))
  (f_Lesser_at : PySem.W.findIn K (.ref k_Lesser) "at" = some (some (.ref m_Term_at)))
  (f_Lesser_places : PySem.W.findIn K (.ref k_Lesser) "places" = some (some (.ref m_Term_places)))
  (f_Lesser_turned : PySem.W.findIn K (.ref k_Lesser) "turned" = some (some (.ref m_Term_turned)))
  (f_Lesser_put : PySem.W.findIn K (.ref k_Lesser) "put" = some (some (.ref m_Term_put)))
  (f_Lesser_and : PySem.W.findIn K (.ref k_Lesser) "__and__" = some (some (.ref m_Term_and)))
  (f_Lesser_or : PySem.W.findIn K (.ref k_Lesser) "__or__" = some (some (.ref m_Term_or)))
  (f_Lesser_str : PySem.W.findIn K (.ref k_Lesser) "__str__" = some (some (.ref m_Term_str)))
  (f_Lesser_repr : PySem.W.findIn K (.ref k_Lesser) "__repr__" = some (some (.ref m_Term_repr)))
  (f_Lesser_eq : PySem.W.findIn K (.ref k_Lesser) "__eq__" = some (some (.ref m_Term_eq)))
  (f_Greater_init : PySem.W.findIn K (.ref k_Greater) "__init__" = some (some (.ref m_Greater_init)))
  (p_at_Greater_parts : PySem.W.findIn K (.ref k_Greater) "parts" = some (some (.ref p_Greater_parts)))
  (p_at_Greater_depth : PySem.W.findIn K (.ref k_Greater) "depth" = some (some (.ref p_Term_depth)))
  (f_Greater_at : PySem.W.findIn K (.ref k_Greater) "at" = some (some (.ref m_Term_at)))
  (f_Greater_places : PySem.W.findIn K (.ref k_Greater) "places" = some (some (.ref m_Term_places)))
  (f_Greater_turned : PySem.W.findIn K (.ref k_Greater) "turned" = some (some (.ref m_Term_turned)))
  (f_Greater_put : PySem.W.findIn K (.ref k_Greater) "put" = some (some (.ref m_Term_put)))
  (f_Greater_and : PySem.W.findIn K (.ref k_Greater) "__and__" = some (some (.ref m_Term_and)))
  (f_Greater_or : PySem.W.findIn K (.ref k_Greater) "__or__" = some (some (.ref m_Term_or)))
  (f_Greater_str : PySem.W.findIn K (.ref k_Greater) "__str__" = some (some (.ref m_Term_str)))
  (f_Greater_repr : PySem.W.findIn K (.ref k_Greater) "__repr__" = some (some (.ref m_Term_repr)))
  (f_Greater_eq : PySem.W.findIn K (.ref k_Greater) "__eq__" = some (some (.ref m_Term_eq)))
  (p_get_Term_depth : PySem.W.specialIn K (.ref p_Term_depth) "__get__" = some (some (.builtin "property.__get__")))
  (p_tak_Term_depth : PySem.W.takesIn K (.ref p_Term_depth) = some true)
  (p_rec_Term_depth : PySem.W.recIn K p_Term_depth "property" = some (.ref m_Term_depth :: rest_Term_depth))
  (p_get_Place_name : PySem.W.specialIn K (.ref p_Place_name) "__get__" = some (some (.builtin "property.__get__")))
  (p_tak_Place_name : PySem.W.takesIn K (.ref p_Place_name) = some true)
  (p_rec_Place_name : PySem.W.recIn K p_Place_name "property" = some (.ref m_Place_name :: rest_Place_name))
  (p_get_End_end : PySem.W.specialIn K (.ref p_End_end) "__get__" = some (some (.builtin "property.__get__")))
  (p_tak_End_end : PySem.W.takesIn K (.ref p_End_end) = some true)
  (p_rec_End_end : PySem.W.recIn K p_End_end "property" = some (.ref m_End_end :: rest_End_end))
  (p_get_Lesser_parts : PySem.W.specialIn K (.ref p_Lesser_parts) "__get__" = some (some (.builtin "property.__get__")))
  (p_tak_Lesser_parts : PySem.W.takesIn K (.ref p_Lesser_parts) = some true)
  (p_rec_Lesser_parts : PySem.W.recIn K p_Lesser_parts "property" = some (.ref m_Lesser_parts :: rest_Lesser_parts))
  (p_get_Greater_parts : PySem.W.specialIn K (.ref p_Greater_parts) "__get__" = some (some (.builtin "property.__get__")))
  (p_tak_Greater_parts : PySem.W.takesIn K (.ref p_Greater_parts) = some true)
  (p_rec_Greater_parts : PySem.W.recIn K p_Greater_parts "property" = some (.ref m_Greater_parts :: rest_Greater_parts))
  (h_l_Term_init : K.lookup m_Term_init = some ⟨oc_Term_init, od_Term_init, .func (PySem.W.fnOf "__init__" "Term.__init__" (defArgs s_Term_init) (defBody s_Term_init) (defScope s_Term_init) .none kV_Term_init dc_Term_init pm_Term_init an_Term_init cd_Term_init ct_Term_init), sl_Term_init⟩)
  (h_c_Term_init : PySem.W.codeIn K cd_Term_init "Term.__init__" = true)
  (h_k_Term_init : PySem.W.keepIn K (.ref m_Term_init) = true)
  (h_fn_Term_init : PySem.W.isFn K (.ref m_Term_init) = true)
  (h_l_Term_depth : K.lookup m_Term_depth = some ⟨oc_Term_depth, od_Term_depth, .func (PySem.W.fnOf "depth" "Term.depth" (defArgs s_Term_depth) (defBody s_Term_depth) (defScope s_Term_depth) .none kV_Term_depth dc_Term_depth pm_Term_depth an_Term_depth cd_Term_depth ct_Term_depth), sl_Term_depth⟩)
  (h_c_Term_depth : PySem.W.codeIn K cd_Term_depth "Term.depth" = true)
  (h_k_Term_depth : PySem.W.keepIn K (.ref m_Term_depth) = true)
  (h_fn_Term_depth : PySem.W.isFn K (.ref m_Term_depth) = true)
  (h_l_Term_at : K.lookup m_Term_at = some ⟨oc_Term_at, od_Term_at, .func (PySem.W.fnOf "at" "Term.at" (defArgs s_Term_at) (defBody s_Term_at) (defScope s_Term_at) .none kV_Term_at dc_Term_at pm_Term_at an_Term_at cd_Term_at ct_Term_at), sl_Term_at⟩)
  (h_c_Term_at : PySem.W.codeIn K cd_Term_at "Term.at" = true)
  (h_k_Term_at : PySem.W.keepIn K (.ref m_Term_at) = true)
  (h_fn_Term_at : PySem.W.isFn K (.ref m_Term_at) = true)
  (h_l_Term_places : K.lookup m_Term_places = some ⟨oc_Term_places, od_Term_places, .func (PySem.W.fnOf "places" "Term.places" (defArgs s_Term_places) (defBody s_Term_places) (defScope s_Term_places) .none kV_Term_places dc_Term_places pm_Term_places an_Term_places cd_Term_places ct_Term_places), sl_Term_places⟩)
  (h_c_Term_places : PySem.W.codeIn K cd_Term_places "Term.places" = true)
  (h_k_Term_places : PySem.W.keepIn K (.ref m_Term_places) = true)
  (h_fn_Term_places : PySem.W.isFn K (.ref m_Term_places) = true)
  (h_l_Term_turned : K.lookup m_Term_turned = some ⟨oc_Term_turned, od_Term_turned, .func (PySem.W.fnOf "turned" "Term.turned" (defArgs s_Term_turned) (defBody s_Term_turned) (defScope s_Term_turned) .none kV_Term_turned dc_Term_turned pm_Term_turned an_Term_turned cd_Term_turned ct_Term_turned), sl_Term_turned⟩)
  (h_c_Term_turned : PySem.W.codeIn K cd_Term_turned "Term.turned" = true)
  (h_k_Term_turned : PySem.W.keepIn K (.ref m_Term_turned) = true)
  (h_fn_Term_turned : PySem.W.isFn K (.ref m_Term_turned) = true)
  (h_l_Term_put : K.lookup m_Term_put = some ⟨oc_Term_put, od_Term_put, .func (PySem.W.fnOf "put" "Term.put" (defArgs s_Term_put) (defBody s_Term_put) (defScope s_Term_put) .none kV_Term_put dc_Term_put pm_Term_put an_Term_put cd_Term_put ct_Term_put), sl_Term_put⟩)
  (h_c_Term_put : PySem.W.codeIn K cd_Term_put "Term.put" = true)
  (h_k_Term_put : PySem.W.keepIn K (.ref m_Term_put) = true)
  (h_fn_Term_put : PySem.W.isFn K (.ref m_Term_put) = true)
  (h_l_Term_and : K.lookup m_Term_and = some ⟨oc_Term_and, od_Term_and, .func (PySem.W.fnOf "__and__" "Term.__and__" (defArgs s_Term_and) (defBody s_Term_and) (defScope s_Term_and) .none kV_Term_and dc_Term_and pm_Term_and an_Term_and cd_Term_and ct_Term_and), sl_Term_and⟩)
  (h_c_Term_and : PySem.W.codeIn K cd_Term_and "Term.__and__" = true)
  (h_k_Term_and : PySem.W.keepIn K (.ref m_Term_and) = true)
  (h_fn_Term_and : PySem.W.isFn K (.ref m_Term_and) = true)
  (h_l_Term_or : K.lookup m_Term_or = some ⟨oc_Term_or, od_Term_or, .func (PySem.W.fnOf "__or__" "Term.__or__" (defArgs s_Term_or) (defBody s_Term_or) (defScope s_Term_or) .none kV_Term_or dc_Term_or pm_Term_or an_Term_or cd_Term_or ct_Term_or), sl_Term_or⟩)
  (h_c_Term_or : PySem.W.codeIn K cd_Term_or "Term.__or__" = true)
  (h_k_Term_or : PySem.W.keepIn K (.ref m_Term_or) = true)
  (h_fn_Term_or : PySem.W.isFn K (.ref m_Term_or) = true)
  (h_l_Term_str : K.lookup m_Term_str = some ⟨oc_Term_str, od_Term_str, .func (PySem.W.fnOf "__str__" "Term.__str__" (defArgs s_Term_str) (defBody s_Term_str) (defScope s_Term_str) .none kV_Term_str dc_Term_str pm_Term_str an_Term_str cd_Term_str ct_Term_str), sl_Term_str⟩)
  (h_c_Term_str : PySem.W.codeIn K cd_Term_str "Term.__str__" = true)
  (h_k_Term_str : PySem.W.keepIn K (.ref m_Term_str) = true)
  (h_fn_Term_str : PySem.W.isFn K (.ref m_Term_str) = true)
  (h_l_Term_repr : K.lookup m_Term_repr = some ⟨oc_Term_repr, od_Term_repr, .func (PySem.W.fnOf "__repr__" "Term.__repr__" (defArgs s_Term_repr) (defBody s_Term_repr) (defScope s_Term_repr) .none kV_Term_repr dc_Term_repr pm_Term_repr an_Term_repr cd_Term_repr ct_Term_repr), sl_Term_repr⟩)
  (h_c_Term_repr : PySem.W.codeIn K cd_Term_repr "Term.__repr__" = true)
  (h_k_Term_repr : PySem.W.keepIn K (.ref m_Term_repr) = true)
  (h_fn_Term_repr : PySem.W.isFn K (.ref m_Term_repr) = true)
  (h_l_Term_eq : K.lookup m_Term_eq = some ⟨oc_Term_eq, od_Term_eq, .func (PySem.W.fnOf "__eq__" "Term.__eq__" (defArgs s_Term_eq) (defBody s_Term_eq) (defScope s_Term_eq) .none kV_Term_eq dc_Term_eq pm_Term_eq an_Term_eq cd_Term_eq ct_Term_eq), sl_Term_eq⟩)
  (h_c_Term_eq : PySem.W.codeIn K cd_Term_eq "Term.__eq__" = true)
  (h_k_Term_eq : PySem.W.keepIn K (.ref m_Term_eq) = true)
  (h_fn_Term_eq : PySem.W.isFn K (.ref m_Term_eq) = true)
  (h_l_Place_init : K.lookup m_Place_init = some ⟨oc_Place_init, od_Place_init, .func (PySem.W.ksFn "__init__" "Place.__init__" (defArgs s_Place_init) (defBody s_Place_init) (defScope s_Place_init) .none kV_Place_init dc_Place_init pm_Place_init an_Place_init (.ref o_Place_init) ct_Place_init w_Place_init), sl_Place_init⟩)
  (h_c_Place_init : PySem.W.codeIn K (.ref o_Place_init) "Place.__init__" = true)
  (h_o_Place_init : K.lookup o_Place_init = some ⟨oco_Place_init, odo_Place_init, .fields vs_Place_init, slo_Place_init⟩)
  (h_x_Place_init : vs_Place_init[2]? = some (.str tx_Place_init tf_Place_init))
  (h_w_Place_init : K.lookup w_Place_init = some ⟨ocw_Place_init, odw_Place_init, .cell (some (.ref k_Place)), slw_Place_init⟩)
  (h_fi_Place_init : ((l.prog.main.file : Str) == tx_Place_init) = true)
  (h_fn_Place_init : PySem.W.isFn K (.ref m_Place_init) = true)
  (h_l_Place_name : K.lookup m_Place_name = some ⟨oc_Place_name, od_Place_name, .func (PySem.W.fnOf "name" "Place.name" (defArgs s_Place_name) (defBody s_Place_name) (defScope s_Place_name) .none kV_Place_name dc_Place_name pm_Place_name an_Place_name cd_Place_name ct_Place_name), sl_Place_name⟩)
  (h_c_Place_name : PySem.W.codeIn K cd_Place_name "Place.name" = true)
  (h_k_Place_name : PySem.W.keepIn K (.ref m_Place_name) = true)
  (h_fn_Place_name : PySem.W.isFn K (.ref m_Place_name) = true)
  (h_l_End_init : K.lookup m_End_init = some ⟨oc_End_init, od_End_init, .func (PySem.W.ksFn "__init__" "End.__init__" (defArgs s_End_init) (defBody s_End_init) (defScope s_End_init) .none kV_End_init dc_End_init pm_End_init an_End_init (.ref o_End_init) ct_End_init w_End_init), sl_End_init⟩)
  (h_c_End_init : PySem.W.codeIn K (.ref o_End_init) "End.__init__" = true)
  (h_o_End_init : K.lookup o_End_init = some ⟨oco_End_init, odo_End_init, .fields vs_End_init, slo_End_init⟩)
  (h_x_End_init : vs_End_init[2]? = some (.str tx_End_init tf_End_init))
  (h_w_End_init : K.lookup w_End_init = some ⟨ocw_End_init, odw_End_init, .cell (some (.ref k_End)), slw_End_init⟩)
  (h_fi_End_init : ((l.prog.main.file : Str) == tx_End_init) = true)
  (h_fn_End_init : PySem.W.isFn K (.ref m_End_init) = true)
  (h_l_End_end : K.lookup m_End_end = some ⟨oc_End_end, od_End_end, .func (PySem.W.fnOf "end" "End.end" (defArgs s_End_end) (defBody s_End_end) (defScope s_End_end) .none kV_End_end dc_End_end pm_End_end an_End_end cd_End_end ct_End_end), sl_End_end⟩)
  (h_c_End_end : PySem.W.codeIn K cd_End_end "End.end" = true)
  (h_k_End_end : PySem.W.keepIn K (.ref m_End_end) = true)
  (h_fn_End_end : PySem.W.isFn K (.ref m_End_end) = true)
  (h_l_Lesser_init : K.lookup m_Lesser_init = some ⟨oc_Lesser_init, od_Lesser_init, .func (PySem.W.ksFn "__init__" "Lesser.__init__" (defArgs s_Lesser_init) (defBody s_Lesser_init) (defScope s_Lesser_init) .none kV_Lesser_init dc_Lesser_init pm_Lesser_init an_Lesser_init (.ref o_Lesser_init) ct_Lesser_init w_Lesser_init), sl_Lesser_init⟩)
  (h_c_Lesser_init : PySem.W.codeIn K (.ref o_Lesser_init) "Lesser.__init__" = true)
  (h_o_Lesser_init : K.lookup o_Lesser_init = some ⟨oco_Lesser_init, odo_Lesser_init, .fields vs_Lesser_init, slo_Lesser_init⟩)
  (h_x_Lesser_init : vs_Lesser_init[2]? = some (.str tx_Lesser_init tf_Lesser_init))
  (h_w_Lesser_init : K.lookup w_Lesser_init = some ⟨ocw_Lesser_init, odw_Lesser_init, .cell (some (.ref k_Lesser)), slw_Lesser_init⟩)
  (h_fi_Lesser_init : ((l.prog.main.file : Str) == tx_Lesser_init) = true)
  (h_fn_Lesser_init : PySem.W.isFn K (.ref m_Lesser_init) = true)
  (h_l_Lesser_parts : K.lookup m_Lesser_parts = some ⟨oc_Lesser_parts, od_Lesser_parts, .func (PySem.W.fnOf "parts" "Lesser.parts" (defArgs s_Lesser_parts) (defBody s_Lesser_parts) (defScope s_Lesser_parts) .none kV_Lesser_parts dc_Lesser_parts pm_Lesser_parts an_Lesser_parts cd_Lesser_parts ct_Lesser_parts), sl_Lesser_parts⟩)
  (h_c_Lesser_parts : PySem.W.codeIn K cd_Lesser_parts "Lesser.parts" = true)
  (h_k_Lesser_parts : PySem.W.keepIn K (.ref m_Lesser_parts) = true)
  (h_fn_Lesser_parts : PySem.W.isFn K (.ref m_Lesser_parts) = true)
  (h_l_Greater_init : K.lookup m_Greater_init = some ⟨oc_Greater_init, od_Greater_init, .func (PySem.W.ksFn "__init__" "Greater.__init__" (defArgs s_Greater_init) (defBody s_Greater_init) (defScope s_Greater_init) .none kV_Greater_init dc_Greater_init pm_Greater_init an_Greater_init (.ref o_Greater_init) ct_Greater_init w_Greater_init), sl_Greater_init⟩)
  (h_c_Greater_init : PySem.W.codeIn K (.ref o_Greater_init) "Greater.__init__" = true)
  (h_o_Greater_init : K.lookup o_Greater_init = some ⟨oco_Greater_init, odo_Greater_init, .fields vs_Greater_init, slo_Greater_init⟩)
  (h_x_Greater_init : vs_Greater_init[2]? = some (.str tx_Greater_init tf_Greater_init))
  (h_w_Greater_init : K.lookup w_Greater_init = some ⟨ocw_Greater_init, odw_Greater_init, .cell (some (.ref k_Greater)), slw_Greater_init⟩)
  (h_fi_Greater_init : ((l.prog.main.file : Str) == tx_Greater_init) = true)
  (h_fn_Greater_init : PySem.W.isFn K (.ref m_Greater_init) = true)
  (h_l_Greater_parts : K.lookup m_Greater_parts = some ⟨oc_Greater_parts, od_Greater_parts, .func (PySem.W.fnOf "parts" "Greater.parts" (defArgs s_Greater_parts) (defBody s_Greater_parts) (defScope s_Greater_parts) .none kV_Greater_parts dc_Greater_parts pm_Greater_parts an_Greater_parts cd_Greater_parts ct_Greater_parts), sl_Greater_parts⟩)
  (h_c_Greater_parts : PySem.W.codeIn K cd_Greater_parts "Greater.parts" = true)
  (h_k_Greater_parts : PySem.W.keepIn K (.ref m_Greater_parts) = true)
  (h_fn_Greater_parts : PySem.W.isFn K (.ref m_Greater_parts) = true)
  (mk_Term : PySem.W.makesIn K k_Term = true)
  (kp_Term : PySem.W.keepIn K (.ref k_Term) = true)
  (rand_Term : PySem.W.findIn K (.ref k_Term) (PySem.dunderR "and") = some none)
  (ror_Term : PySem.W.findIn K (.ref k_Term) (PySem.dunderR "or") = some none)
  (na_Term_own_depth : PySem.W.findIn K (.ref k_Term) "own_depth" = some none)
  (s_sub_Place : PySem.W.mroIn K k_Place (.ref k_Place) = some true)
  (s_sup_Place : PySem.W.ks_superIn K k_Place k_Place "__init__" = some (some (.ref m_Term_init)))
  (s_ty_m_Term_init : PySem.W.typeIn K (.ref m_Term_init) = some (.type "function"))
  (s_fn_m_Term_init : PySem.W.fnIn K m_Term_init = true)
  (mk_Place : PySem.W.makesIn K k_Place = true)
  (kp_Place : PySem.W.keepIn K (.ref k_Place) = true)
  (rand_Place : PySem.W.findIn K (.ref k_Place) (PySem.dunderR "and") = some none)
  (ror_Place : PySem.W.findIn K (.ref k_Place) (PySem.dunderR "or") = some none)
  (na_Place_own_depth : PySem.W.findIn K (.ref k_Place) "own_depth" = some none)
  (na_Place_own_name : PySem.W.findIn K (.ref k_Place) "own_name" = some none)
  (s_sub_End : PySem.W.mroIn K k_End (.ref k_End) = some true)
  (s_sup_End : PySem.W.ks_superIn K k_End k_End "__init__" = some (some (.ref m_Term_init)))
  (mk_End : PySem.W.makesIn K k_End = true)
  (kp_End : PySem.W.keepIn K (.ref k_End) = true)
  (rand_End : PySem.W.findIn K (.ref k_End) (PySem.dunderR "and") = some none)
  (ror_End : PySem.W.findIn K (.ref k_End) (PySem.dunderR "or") = some none)
  (na_End_own_depth : PySem.W.findIn K (.ref k_End) "own_depth" = some none)
  (na_End_own_end : PySem.W.findIn K (.ref k_End) "own_end" = some none)
  (s_sub_Lesser : PySem.W.mroIn K k_Lesser (.ref k_Lesser) = some true)
  (s_sup_Lesser : PySem.W.ks_superIn K k_Lesser k_Lesser "__init__" = some (some (.ref m_Term_init)))
  (mk_Lesser : PySem.W.makesIn K k_Lesser = true)
  (kp_Lesser : PySem.W.keepIn K (.ref k_Lesser) = true)
  (rand_Lesser : PySem.W.findIn K (.ref k_Lesser) (PySem.dunderR "and") = some none)
  (ror_Lesser : PySem.W.findIn K (.ref k_Lesser) (PySem.dunderR "or") = some none)
  (na_Lesser_own_depth : PySem.W.findIn K (.ref k_Lesser) "own_depth" = some none)
  (na_Lesser_own_parts : PySem.W.findIn K (.ref k_Lesser) "own_parts" = some none)
  (s_sub_Greater : PySem.W.mroIn K k_Greater (.ref k_Greater) = some true)
  (s_sup_Greater : PySem.W.ks_superIn K k_Greater k_Greater "__init__" = some (some (.ref m_Term_init)))
  (mk_Greater : PySem.W.makesIn K k_Greater = true)
  (kp_Greater : PySem.W.keepIn K (.ref k_Greater) = true)
  (rand_Greater : PySem.W.findIn K (.ref k_Greater) (PySem.dunderR "and") = some none)
  (ror_Greater : PySem.W.findIn K (.ref k_Greater) (PySem.dunderR "or") = some none)
  (na_Greater_own_depth : PySem.W.findIn K (.ref k_Greater) "own_depth" = some none)
  (na_Greater_own_parts : PySem.W.findIn K (.ref k_Greater) "own_parts" = some none)
  (x_Term_Term : PySem.W.subIn K (.ref k_Term) (.ref k_Term) = some true)
  (x_Term_Place : PySem.W.subIn K (.ref k_Term) (.ref k_Place) = some false)
  (x_Term_End : PySem.W.subIn K (.ref k_Term) (.ref k_End) = some false)
  (x_Term_Lesser : PySem.W.subIn K (.ref k_Term) (.ref k_Lesser) = some false)
  (x_Term_Greater : PySem.W.subIn K (.ref k_Term) (.ref k_Greater) = some false)
  (x_Place_Term : PySem.W.subIn K (.ref k_Place) (.ref k_Term) = some true)
  (x_Place_Place : PySem.W.subIn K (.ref k_Place) (.ref k_Place) = some true)
  (x_Place_End : PySem.W.subIn K (.ref k_Place) (.ref k_End) = some false)
  (x_Place_Lesser : PySem.W.subIn K (.ref k_Place) (.ref k_Lesser) = some false)
  (x_Place_Greater : PySem.W.subIn K (.ref k_Place) (.ref k_Greater) = some false)
  (x_End_Term : PySem.W.subIn K (.ref k_End) (.ref k_Term) = some true)
  (x_End_Place : PySem.W.subIn K (.ref k_End) (.ref k_Place) = some false)
  (x_End_End : PySem.W.subIn K (.ref k_End) (.ref k_End) = some true)
  (x_End_Lesser : PySem.W.subIn K (.ref k_End) (.ref k_Lesser) = some false)
  (x_End_Greater : PySem.W.subIn K (.ref k_End) (.ref k_Greater) = some false)
  (x_Lesser_Term : PySem.W.subIn K (.ref k_Lesser) (.ref k_Term) = some true)
  (x_Lesser_Place : PySem.W.subIn K (.ref k_Lesser) (.ref k_Place) = some false)
  (x_Lesser_End : PySem.W.subIn K (.ref k_Lesser) (.ref k_End) = some false)
  (x_Lesser_Lesser : PySem.W.subIn K (.ref k_Lesser) (.ref k_Lesser) = some true)
  (x_Lesser_Greater : PySem.W.subIn K (.ref k_Lesser) (.ref k_Greater) = some false)
  (x_Greater_Term : PySem.W.subIn K (.ref k_Greater) (.ref k_Term) = some true)
  (x_Greater_Place : PySem.W.subIn K (.ref k_Greater) (.ref k_Place) = some false)
  (x_Greater_End : PySem.W.subIn K (.ref k_Greater) (.ref k_End) = some false)
  (x_Greater_Lesser : PySem.W.subIn K (.ref k_Greater) (.ref k_Lesser) = some false)
  (x_Greater_Greater : PySem.W.subIn K (.ref k_Greater) (.ref k_Greater) = some true)
  (x_HeldError_HeldError : PySem.W.subIn K (.ref C_HeldError) (.ref C_HeldError) = some true)
  (x_HeldError_InvalidPlace : PySem.W.subIn K (.ref C_HeldError) (.ref C_InvalidPlace) = some false)
  (x_HeldError_InvalidEnd : PySem.W.subIn K (.ref C_HeldError) (.ref C_InvalidEnd) = some false)
  (x_HeldError_InvalidTerm : PySem.W.subIn K (.ref C_HeldError) (.ref C_InvalidTerm) = some false)
  (x_HeldError_InvalidValues : PySem.W.subIn K (.ref C_HeldError) (.ref C_InvalidValues) = some false)
  (x_InvalidPlace_HeldError : PySem.W.subIn K (.ref C_InvalidPlace) (.ref C_HeldError) = some true)
  (x_InvalidPlace_InvalidPlace : PySem.W.subIn K (.ref C_InvalidPlace) (.ref C_InvalidPlace) = some true)
  (x_InvalidPlace_InvalidEnd : PySem.W.subIn K (.ref C_InvalidPlace) (.ref C_InvalidEnd) = some false)
  (x_InvalidPlace_InvalidTerm : PySem.W.subIn K (.ref C_InvalidPlace) (.ref C_InvalidTerm) = some false)
  (x_InvalidPlace_InvalidValues : PySem.W.subIn K (.ref C_InvalidPlace) (.ref C_InvalidValues) = some false)
  (x_InvalidEnd_HeldError : PySem.W.subIn K (.ref C_InvalidEnd) (.ref C_HeldError) = some true)
  (x_InvalidEnd_InvalidPlace : PySem.W.subIn K (.ref C_InvalidEnd) (.ref C_InvalidPlace) = some false)
  (x_InvalidEnd_InvalidEnd : PySem.W.subIn K (.ref C_InvalidEnd) (.ref C_InvalidEnd) = some true)
  (x_InvalidEnd_InvalidTerm : PySem.W.subIn K (.ref C_InvalidEnd) (.ref C_InvalidTerm) = some false)
  (x_InvalidEnd_InvalidValues : PySem.W.subIn K (.ref C_InvalidEnd) (.ref C_InvalidValues) = some false)
  (x_InvalidTerm_HeldError : PySem.W.subIn K (.ref C_InvalidTerm) (.ref C_HeldError) = some true)
  (x_InvalidTerm_InvalidPlace : PySem.W.subIn K (.ref C_InvalidTerm) (.ref C_InvalidPlace) = some false)
  (x_InvalidTerm_InvalidEnd : PySem.W.subIn K (.ref C_InvalidTerm) (.ref C_InvalidEnd) = some false)
  (x_InvalidTerm_InvalidTerm : PySem.W.subIn K (.ref C_InvalidTerm) (.ref C_InvalidTerm) = some true)
  (x_InvalidTerm_InvalidValues : PySem.W.subIn K (.ref C_InvalidTerm) (.ref C_InvalidValues) = some false)
  (x_InvalidValues_HeldError : PySem.W.subIn K (.ref C_InvalidValues) (.ref C_HeldError) = some true)
  (x_InvalidValues_InvalidPlace : PySem.W.subIn K (.ref C_InvalidValues) (.ref C_InvalidPlace) = some false)
  (x_InvalidValues_InvalidEnd : PySem.W.subIn K (.ref C_InvalidValues) (.ref C_InvalidEnd) = some false)
  (x_InvalidValues_InvalidTerm : PySem.W.subIn K (.ref C_InvalidValues) (.ref C_InvalidTerm) = some false)
  (x_InvalidValues_InvalidValues : PySem.W.subIn K (.ref C_InvalidValues) (.ref C_InvalidValues) = some true)
  (y_HeldError : PySem.W.subIn K (.ref C_HeldError) (.type "ValueError") = some true)
  (y_InvalidPlace : PySem.W.subIn K (.ref C_InvalidPlace) (.type "ValueError") = some true)
  (y_InvalidEnd : PySem.W.subIn K (.ref C_InvalidEnd) (.type "ValueError") = some true)
  (y_InvalidTerm : PySem.W.subIn K (.ref C_InvalidTerm) (.type "ValueError") = some true)
  (y_InvalidValues : PySem.W.subIn K (.ref C_InvalidValues) (.type "ValueError") = some true)
  (nk_Place : LG.noKinds K k_Place = true)
  (nk_End : LG.noKinds K k_End = true)
  (nk_Lesser : LG.noKinds K k_Lesser = true)
  (nk_Greater : LG.noKinds K k_Greater = true)
  (h_top : (l.prog.main.scope.names.lookup ("super" : Str)).isSome = false)
  : LG.LawAt l w K 16 63 mg fa h := by
  let a : At := { c_HeldError := C_HeldError, c_InvalidPlace := C_InvalidPlace, c_InvalidEnd := C_InvalidEnd, c_InvalidTerm := C_InvalidTerm, c_InvalidValues := C_InvalidValues, k_Term := k_Term, k_Place := k_Place, k_End := k_End, k_Lesser := k_Lesser, k_Greater := k_Greater, init := f_init, _wall := f__wall, is_integer := f_is_integer, is_end := f_is_end, is_value := f_is_value, is_not_less := f_is_not_less, least_of := f_least_of, greatest_of := f_greatest_of, is_place := f_is_place, want_term := f_want_term, want_terms := f_want_terms, depth_above := f_depth_above, want_values := f_want_values, value_at := f_value_at, places_in := f_places_in, term_text := f_term_text, term_repr := f_term_repr, _law_pot := f__law_pot, _law_draw := f__law_draw, _law_pick := f__law_pick, _law_places := f__law_places, _law_term := f__law_term, _law_joined := f__law_joined, _law_real := f__law_real, _law_inner := f__law_inner, _law_text := f__law_text, _law_written := f__law_written, _law_bent := f__law_bent, _law_signs_right := f__law_signs_right, _law_right := f__law_right, law := f_law, m_Term_init := m_Term_init, m_Term_depth := m_Term_depth, p_Term_depth := p_Term_depth, m_Term_at := m_Term_at, m_Term_places := m_Term_places, m_Term_turned := m_Term_turned, m_Term_put := m_Term_put, m_Term_and := m_Term_and, m_Term_or := m_Term_or, m_Term_str := m_Term_str, m_Term_repr := m_Term_repr, m_Term_eq := m_Term_eq, m_Place_init := m_Place_init, w_Place_init := w_Place_init, o_Place_init := o_Place_init, m_Place_name := m_Place_name, p_Place_name := p_Place_name, m_End_init := m_End_init, w_End_init := w_End_init, o_End_init := o_End_init, m_End_end := m_End_end, p_End_end := p_End_end, m_Lesser_init := m_Lesser_init, w_Lesser_init := w_Lesser_init, o_Lesser_init := o_Lesser_init, m_Lesser_parts := m_Lesser_parts, p_Lesser_parts := p_Lesser_parts, m_Greater_init := m_Greater_init, w_Greater_init := w_Greater_init, o_Greater_init := o_Greater_init, m_Greater_parts := m_Greater_parts, p_Greater_parts := p_Greater_parts, t_BOTTOM := t_BOTTOM, t_TOP := t_TOP, t_LEAST_PARTS := t_LEAST_PARTS, ENDS := g_ENDS, PLACES := g_PLACES }
  have T : Txt K mg a :=
    { d__wall := gfn_of X G h_n__wall h_l__wall h_c__wall h_k__wall
      d_is_integer := gfn_of X G h_n_is_integer h_l_is_integer h_c_is_integer h_k_is_integer
      d_is_end := gfn_of X G h_n_is_end h_l_is_end h_c_is_end h_k_is_end
      d_is_value := gfn_of X G h_n_is_value h_l_is_value h_c_is_value h_k_is_value
      d_is_not_less := gfn_of X G h_n_is_not_less h_l_is_not_less h_c_is_not_less h_k_is_not_less
      d_least_of := gfn_of X G h_n_least_of h_l_least_of h_c_least_of h_k_least_of
      d_greatest_of := gfn_of X G h_n_greatest_of h_l_greatest_of h_c_greatest_of h_k_greatest_of
      d_is_place := gfn_of X G h_n_is_place h_l_is_place h_c_is_place h_k_is_place
      d_want_term := gfn_of X G h_n_want_term h_l_want_term h_c_want_term h_k_want_term
      d_want_terms := gfn_of X G h_n_want_terms h_l_want_terms h_c_want_terms h_k_want_terms
      d_depth_above := gfn_of X G h_n_depth_above h_l_depth_above h_c_depth_above h_k_depth_above
      d_want_values := gfn_of X G h_n_want_values h_l_want_values h_c_want_values h_k_want_values
      d_value_at := gfn_of X G h_n_value_at h_l_value_at h_c_value_at h_k_value_at
      d_places_in := gfn_of X G h_n_places_in h_l_places_in h_c_places_in h_k_places_in
      d_term_text := gfn_of X G h_n_term_text h_l_term_text h_c_term_text h_k_term_text
      d_term_repr := gfn_of X G h_n_term_repr h_l_term_repr h_c_term_repr h_k_term_repr
      d__law_pot := gfn_of X G h_n__law_pot h_l__law_pot h_c__law_pot h_k__law_pot
      d__law_draw := gfn_of X G h_n__law_draw h_l__law_draw h_c__law_draw h_k__law_draw
      d__law_pick := gfn_of X G h_n__law_pick h_l__law_pick h_c__law_pick h_k__law_pick
      d__law_places := gfn_of X G h_n__law_places h_l__law_places h_c__law_places h_k__law_places
      d__law_term := gfn_of X G h_n__law_term h_l__law_term h_c__law_term h_k__law_term
      d__law_joined := gfn_of X G h_n__law_joined h_l__law_joined h_c__law_joined h_k__law_joined
      d__law_real := gfn_of X G h_n__law_real h_l__law_real h_c__law_real h_k__law_real
      d__law_inner := gfn_of X G h_n__law_inner h_l__law_inner h_c__law_inner h_k__law_inner
      d__law_text := gfn_of X G h_n__law_text h_l__law_text h_c__law_text h_k__law_text
      d__law_written := gfn_of X G h_n__law_written h_l__law_written h_c__law_written h_k__law_written
      d__law_bent := gfn_of X G h_n__law_bent h_l__law_bent h_c__law_bent h_k__law_bent
      d__law_signs_right := gfn_of X G h_n__law_signs_right h_l__law_signs_right h_c__law_signs_right h_k__law_signs_right
      d__law_right := gfn_of X G h_n__law_right h_l__law_right h_c__law_right h_k__law_right
      d_law := gfn_of X G h_n_law h_l_law h_c_law h_k_law
      z_abs := PySem.W.mg_none_of X G h_z_abs
      z_all := PySem.W.mg_none_of X G h_z_all
      z_any := PySem.W.mg_none_of X G h_z_any
      z_bool := PySem.W.mg_none_of X G h_z_bool
      z_dict := PySem.W.mg_none_of X G h_z_dict
      z_divmod := PySem.W.mg_none_of X G h_z_divmod
      z_int := PySem.W.mg_none_of X G h_z_int
      z_isinstance := PySem.W.mg_none_of X G h_z_isinstance
      z_len := PySem.W.mg_none_of X G h_z_len
      z_list := PySem.W.mg_none_of X G h_z_list
      z_max := PySem.W.mg_none_of X G h_z_max
      z_min := PySem.W.mg_none_of X G h_z_min
      z_property := PySem.W.mg_none_of X G h_z_property
      z_range := PySem.W.mg_none_of X G h_z_range
      z_repr := PySem.W.mg_none_of X G h_z_repr
      z_sorted := PySem.W.mg_none_of X G h_z_sorted
      z_str := PySem.W.mg_none_of X G h_z_str
      z_super := PySem.W.mg_none_of X G h_z_super
      v_BOTTOM := PySem.W.mg_of X G h_v_BOTTOM
      v_TOP := PySem.W.mg_of X G h_v_TOP
      v_LEAST_PARTS := PySem.W.mg_of X G h_v_LEAST_PARTS
      v_ENDS := PySem.W.mg_of X G h_v_ENDS
      l_ENDS := ⟨_, [.str "bottom" t_ENDS_0, .str "top" t_ENDS_1], _, _, h_l_ENDS, .cons ⟨_, rfl⟩ (.cons ⟨_, rfl⟩ (.nil))⟩
      v_PLACES := PySem.W.mg_of X G h_v_PLACES
      l_PLACES := ⟨_, [.str "r0" t_PLACES_0, .str "r1" t_PLACES_1, .str "r2" t_PLACES_2, .str "r3" t_PLACES_3, .str "r4" t_PLACES_4, .str "r5" t_PLACES_5, .str "x0" t_PLACES_6, .str "x1" t_PLACES_7], _, _, h_l_PLACES, .cons ⟨_, rfl⟩ (.cons ⟨_, rfl⟩ (.cons ⟨_, rfl⟩ (.cons ⟨_, rfl⟩ (.cons ⟨_, rfl⟩ (.cons ⟨_, rfl⟩ (.cons ⟨_, rfl⟩ (.cons ⟨_, rfl⟩ (.nil))))))))⟩
      e_HeldError := gex_of X G e_n_HeldError e_l_HeldError e_r_HeldError e_sa_HeldError e_e1_HeldError e_e2_HeldError e_e3_HeldError e_i_HeldError e_v_HeldError e_ga_HeldError e_gg_HeldError e_hd_HeldError e_ha_HeldError e_hn e_ht e_hm_HeldError
      e_InvalidPlace := gex_of X G e_n_InvalidPlace e_l_InvalidPlace e_r_InvalidPlace e_sa_InvalidPlace e_e1_InvalidPlace e_e2_InvalidPlace e_e3_InvalidPlace e_i_InvalidPlace e_v_InvalidPlace e_ga_InvalidPlace e_gg_InvalidPlace e_hd_InvalidPlace e_ha_InvalidPlace e_hn e_ht e_hm_InvalidPlace
      e_InvalidEnd := gex_of X G e_n_InvalidEnd e_l_InvalidEnd e_r_InvalidEnd e_sa_InvalidEnd e_e1_InvalidEnd e_e2_InvalidEnd e_e3_InvalidEnd e_i_InvalidEnd e_v_InvalidEnd e_ga_InvalidEnd e_gg_InvalidEnd e_hd_InvalidEnd e_ha_InvalidEnd e_hn e_ht e_hm_InvalidEnd
      e_InvalidTerm := gex_of X G e_n_InvalidTerm e_l_InvalidTerm e_r_InvalidTerm e_sa_InvalidTerm e_e1_InvalidTerm e_e2_InvalidTerm e_e3_InvalidTerm e_i_InvalidTerm e_v_InvalidTerm e_ga_InvalidTerm e_gg_InvalidTerm e_hd_InvalidTerm e_ha_InvalidTerm e_hn e_ht e_hm_InvalidTerm
      e_InvalidValues := gex_of X G e_n_InvalidValues e_l_InvalidValues e_r_InvalidValues e_sa_InvalidValues e_e1_InvalidValues e_e2_InvalidValues e_e3_InvalidValues e_i_InvalidValues e_v_InvalidValues e_ga_InvalidValues e_gg_InvalidValues e_hd_InvalidValues e_ha_InvalidValues e_hn e_ht e_hm_InvalidValues
      ti := h_ti
      di := ⟨_, ⟨_, _, _, _, _, _, _, _, _, _, rfl, h_il, h_ic, .inr ⟨by simp, TD, _, [.none], _, rfl, h_iD, rfl, .cons rfl .nil⟩, .inl rfl⟩, h_ik⟩
      hn := e_hn
      htk := e_ht
      any := h_any
      g_Term := ⟨PySem.W.mg_of X G h_n_Term, ⟨c_pg_Term, c_hd_Term, c_po_Term, c_sa_Term⟩, c_ha_Term, c_hm_Term, c_ne_Term, cls_some c_sf_Term, c_ty_Term⟩
      g_Place := ⟨PySem.W.mg_of X G h_n_Place, ⟨c_pg_Place, c_hd_Place, c_po_Place, c_sa_Place⟩, c_ha_Place, c_hm_Place, c_ne_Place, cls_some c_sf_Place, c_ty_Place⟩
      g_End := ⟨PySem.W.mg_of X G h_n_End, ⟨c_pg_End, c_hd_End, c_po_End, c_sa_End⟩, c_ha_End, c_hm_End, c_ne_End, cls_some c_sf_End, c_ty_End⟩
      g_Lesser := ⟨PySem.W.mg_of X G h_n_Lesser, ⟨c_pg_Lesser, c_hd_Lesser, c_po_Lesser, c_sa_Lesser⟩, c_ha_Lesser, c_hm_Lesser, c_ne_Lesser, cls_some c_sf_Lesser, c_ty_Lesser⟩
      g_Greater := ⟨PySem.W.mg_of X G h_n_Greater, ⟨c_pg_Greater, c_hd_Greater, c_po_Greater, c_sa_Greater⟩, c_ha_Greater, c_hm_Greater, c_ne_Greater, cls_some c_sf_Greater, c_ty_Greater⟩
      m_Term_init := ⟨⟨_, fun_mk h_l_Term_init h_c_Term_init h_k_Term_init⟩, h_fn_Term_init⟩
      m_Term_depth := ⟨⟨_, fun_mk h_l_Term_depth h_c_Term_depth h_k_Term_depth⟩, h_fn_Term_depth⟩
      m_Term_at := ⟨⟨_, fun_mk h_l_Term_at h_c_Term_at h_k_Term_at⟩, h_fn_Term_at⟩
      m_Term_places := ⟨⟨_, fun_mk h_l_Term_places h_c_Term_places h_k_Term_places⟩, h_fn_Term_places⟩
      m_Term_turned := ⟨⟨_, fun_mk h_l_Term_turned h_c_Term_turned h_k_Term_turned⟩, h_fn_Term_turned⟩
      m_Term_put := ⟨⟨_, fun_mk h_l_Term_put h_c_Term_put h_k_Term_put⟩, h_fn_Term_put⟩
      m_Term_and := ⟨⟨_, fun_mk h_l_Term_and h_c_Term_and h_k_Term_and⟩, h_fn_Term_and⟩
      m_Term_or := ⟨⟨_, fun_mk h_l_Term_or h_c_Term_or h_k_Term_or⟩, h_fn_Term_or⟩
      m_Term_str := ⟨⟨_, fun_mk h_l_Term_str h_c_Term_str h_k_Term_str⟩, h_fn_Term_str⟩
      m_Term_repr := ⟨⟨_, fun_mk h_l_Term_repr h_c_Term_repr h_k_Term_repr⟩, h_fn_Term_repr⟩
      m_Term_eq := ⟨⟨_, fun_mk h_l_Term_eq h_c_Term_eq h_k_Term_eq⟩, h_fn_Term_eq⟩
      m_Place_init := ⟨⟨_, _, _, _, _, _, _, _, h_l_Place_init⟩, h_c_Place_init, ⟨_, _, _, _, _, _, h_o_Place_init, h_x_Place_init⟩, ⟨_, _, _, h_w_Place_init⟩, Option.ne_none_iff_exists'.mp (cls_some c_sf_Place)⟩
      m_Place_name := ⟨⟨_, fun_mk h_l_Place_name h_c_Place_name h_k_Place_name⟩, h_fn_Place_name⟩
      m_End_init := ⟨⟨_, _, _, _, _, _, _, _, h_l_End_init⟩, h_c_End_init, ⟨_, _, _, _, _, _, h_o_End_init, h_x_End_init⟩, ⟨_, _, _, h_w_End_init⟩, Option.ne_none_iff_exists'.mp (cls_some c_sf_End)⟩
      m_End_end := ⟨⟨_, fun_mk h_l_End_end h_c_End_end h_k_End_end⟩, h_fn_End_end⟩
      m_Lesser_init := ⟨⟨_, _, _, _, _, _, _, _, h_l_Lesser_init⟩, h_c_Lesser_init, ⟨_, _, _, _, _, _, h_o_Lesser_init, h_x_Lesser_init⟩, ⟨_, _, _, h_w_Lesser_init⟩, Option.ne_none_iff_exists'.mp (cls_some c_sf_Lesser)⟩
      m_Lesser_parts := ⟨⟨_, fun_mk h_l_Lesser_parts h_c_Lesser_parts h_k_Lesser_parts⟩, h_fn_Lesser_parts⟩
      m_Greater_init := ⟨⟨_, _, _, _, _, _, _, _, h_l_Greater_init⟩, h_c_Greater_init, ⟨_, _, _, _, _, _, h_o_Greater_init, h_x_Greater_init⟩, ⟨_, _, _, h_w_Greater_init⟩, Option.ne_none_iff_exists'.mp (cls_some c_sf_Greater)⟩
      m_Greater_parts := ⟨⟨_, fun_mk h_l_Greater_parts h_c_Greater_parts h_k_Greater_parts⟩, h_fn_Greater_parts⟩
      f_Term_init := f_Term_init
      p_Term_depth := ⟨p_at_Term_depth, p_get_Term_depth, p_tak_Term_depth, _, p_rec_Term_depth⟩
      f_Term_at := f_Term_at
      f_Term_places := f_Term_places
      f_Term_turned := f_Term_turned
      f_Term_put := f_Term_put
      f_Term_and := f_Term_and
      f_Term_or := f_Term_or
      f_Term_str := f_Term_str
      f_Term_repr := f_Term_repr
      f_Term_eq := f_Term_eq
      mk_Term := ⟨mk_Term, f_Term_init, h_fn_Term_init, kp_Term⟩
      first_Term := c_sf_Term
      rand_Term := rand_Term
      ror_Term := ror_Term
      na_Term_own_depth := na_Term_own_depth
      f_Place_init := f_Place_init
      p_Place_name := ⟨p_at_Place_name, p_get_Place_name, p_tak_Place_name, _, p_rec_Place_name⟩
      p_Place_depth := ⟨p_at_Place_depth, p_get_Term_depth, p_tak_Term_depth, _, p_rec_Term_depth⟩
      f_Place_at := f_Place_at
      f_Place_places := f_Place_places
      f_Place_turned := f_Place_turned
      f_Place_put := f_Place_put
      f_Place_and := f_Place_and
      f_Place_or := f_Place_or
      f_Place_str := f_Place_str
      f_Place_repr := f_Place_repr
      f_Place_eq := f_Place_eq
      s_Place := ⟨s_sub_Place, s_sup_Place, s_ty_m_Term_init, h_any, s_fn_m_Term_init⟩
      mk_Place := ⟨mk_Place, f_Place_init, h_fn_Place_init, kp_Place⟩
      first_Place := c_sf_Place
      rand_Place := rand_Place
      ror_Place := ror_Place
      na_Place_own_depth := na_Place_own_depth
      na_Place_own_name := na_Place_own_name
      f_End_init := f_End_init
      p_End_end := ⟨p_at_End_end, p_get_End_end, p_tak_End_end, _, p_rec_End_end⟩
      p_End_depth := ⟨p_at_End_depth, p_get_Term_depth, p_tak_Term_depth, _, p_rec_Term_depth⟩
      f_End_at := f_End_at
      f_End_places := f_End_places
      f_End_turned := f_End_turned
      f_End_put := f_End_put
      f_End_and := f_End_and
      f_End_or := f_End_or
      f_End_str := f_End_str
      f_End_repr := f_End_repr
      f_End_eq := f_End_eq
      s_End := ⟨s_sub_End, s_sup_End, s_ty_m_Term_init, h_any, s_fn_m_Term_init⟩
      mk_End := ⟨mk_End, f_End_init, h_fn_End_init, kp_End⟩
      first_End := c_sf_End
      rand_End := rand_End
      ror_End := ror_End
      na_End_own_depth := na_End_own_depth
      na_End_own_end := na_End_own_end
      f_Lesser_init := f_Lesser_init
      p_Lesser_parts := ⟨p_at_Lesser_parts, p_get_Lesser_parts, p_tak_Lesser_parts, _, p_rec_Lesser_parts⟩
      p_Lesser_depth := ⟨p_at_Lesser_depth, p_get_Term_depth, p_tak_Term_depth, _, p_rec_Term_depth⟩
      f_Lesser_at := f_Lesser_at
      f_Lesser_places := f_Lesser_places
      f_Lesser_turned := f_Lesser_turned
      f_Lesser_put := f_Lesser_put
      f_Lesser_and := f_Lesser_and
      f_Lesser_or := f_Lesser_or
      f_Lesser_str := f_Lesser_str
      f_Lesser_repr := f_Lesser_repr
      f_Lesser_eq := f_Lesser_eq
      s_Lesser := ⟨s_sub_Lesser, s_sup_Lesser, s_ty_m_Term_init, h_any, s_fn_m_Term_init⟩
      mk_Lesser := ⟨mk_Lesser, f_Lesser_init, h_fn_Lesser_init, kp_Lesser⟩
      first_Lesser := c_sf_Lesser
      rand_Lesser := rand_Lesser
      ror_Lesser := ror_Lesser
      na_Lesser_own_depth := na_Lesser_own_depth
      na_Lesser_own_parts := na_Lesser_own_parts
      f_Greater_init := f_Greater_init
      p_Greater_parts := ⟨p_at_Greater_parts, p_get_Greater_parts, p_tak_Greater_parts, _, p_rec_Greater_parts⟩
      p_Greater_depth := ⟨p_at_Greater_depth, p_get_Term_depth, p_tak_Term_depth, _, p_rec_Term_depth⟩
      f_Greater_at := f_Greater_at
      f_Greater_places := f_Greater_places
      f_Greater_turned := f_Greater_turned
      f_Greater_put := f_Greater_put
      f_Greater_and := f_Greater_and
      f_Greater_or := f_Greater_or
      f_Greater_str := f_Greater_str
      f_Greater_repr := f_Greater_repr
      f_Greater_eq := f_Greater_eq
      s_Greater := ⟨s_sub_Greater, s_sup_Greater, s_ty_m_Term_init, h_any, s_fn_m_Term_init⟩
      mk_Greater := ⟨mk_Greater, f_Greater_init, h_fn_Greater_init, kp_Greater⟩
      first_Greater := c_sf_Greater
      rand_Greater := rand_Greater
      ror_Greater := ror_Greater
      na_Greater_own_depth := na_Greater_own_depth
      na_Greater_own_parts := na_Greater_own_parts
      x_Term_Term := x_Term_Term
      x_Term_Place := x_Term_Place
      x_Term_End := x_Term_End
      x_Term_Lesser := x_Term_Lesser
      x_Term_Greater := x_Term_Greater
      x_Place_Term := x_Place_Term
      x_Place_Place := x_Place_Place
      x_Place_End := x_Place_End
      x_Place_Lesser := x_Place_Lesser
      x_Place_Greater := x_Place_Greater
      x_End_Term := x_End_Term
      x_End_Place := x_End_Place
      x_End_End := x_End_End
      x_End_Lesser := x_End_Lesser
      x_End_Greater := x_End_Greater
      x_Lesser_Term := x_Lesser_Term
      x_Lesser_Place := x_Lesser_Place
      x_Lesser_End := x_Lesser_End
      x_Lesser_Lesser := x_Lesser_Lesser
      x_Lesser_Greater := x_Lesser_Greater
      x_Greater_Term := x_Greater_Term
      x_Greater_Place := x_Greater_Place
      x_Greater_End := x_Greater_End
      x_Greater_Lesser := x_Greater_Lesser
      x_Greater_Greater := x_Greater_Greater
      x_HeldError_HeldError := x_HeldError_HeldError
      x_HeldError_InvalidPlace := x_HeldError_InvalidPlace
      x_HeldError_InvalidEnd := x_HeldError_InvalidEnd
      x_HeldError_InvalidTerm := x_HeldError_InvalidTerm
      x_HeldError_InvalidValues := x_HeldError_InvalidValues
      x_InvalidPlace_HeldError := x_InvalidPlace_HeldError
      x_InvalidPlace_InvalidPlace := x_InvalidPlace_InvalidPlace
      x_InvalidPlace_InvalidEnd := x_InvalidPlace_InvalidEnd
      x_InvalidPlace_InvalidTerm := x_InvalidPlace_InvalidTerm
      x_InvalidPlace_InvalidValues := x_InvalidPlace_InvalidValues
      x_InvalidEnd_HeldError := x_InvalidEnd_HeldError
      x_InvalidEnd_InvalidPlace := x_InvalidEnd_InvalidPlace
      x_InvalidEnd_InvalidEnd := x_InvalidEnd_InvalidEnd
      x_InvalidEnd_InvalidTerm := x_InvalidEnd_InvalidTerm
      x_InvalidEnd_InvalidValues := x_InvalidEnd_InvalidValues
      x_InvalidTerm_HeldError := x_InvalidTerm_HeldError
      x_InvalidTerm_InvalidPlace := x_InvalidTerm_InvalidPlace
      x_InvalidTerm_InvalidEnd := x_InvalidTerm_InvalidEnd
      x_InvalidTerm_InvalidTerm := x_InvalidTerm_InvalidTerm
      x_InvalidTerm_InvalidValues := x_InvalidTerm_InvalidValues
      x_InvalidValues_HeldError := x_InvalidValues_HeldError
      x_InvalidValues_InvalidPlace := x_InvalidValues_InvalidPlace
      x_InvalidValues_InvalidEnd := x_InvalidValues_InvalidEnd
      x_InvalidValues_InvalidTerm := x_InvalidValues_InvalidTerm
      x_InvalidValues_InvalidValues := x_InvalidValues_InvalidValues
      y_HeldError := y_HeldError
      y_InvalidPlace := y_InvalidPlace
      y_InvalidEnd := y_InvalidEnd
      y_InvalidTerm := y_InvalidTerm
      y_InvalidValues := y_InvalidValues }
  have fl : Files l.prog K a :=
    { place := fun vs cl cd sl tx tf h1 h2 => by
        rw [show K.lookup a.o_Place_init = _ from h_o_Place_init] at h1
        cases h1
        rw [h_x_Place_init] at h2
        cases h2
        exact h_fi_Place_init
      endd := fun vs cl cd sl tx tf h1 h2 => by
        rw [show K.lookup a.o_End_init = _ from h_o_End_init] at h1
        cases h1
        rw [h_x_End_init] at h2
        cases h2
        exact h_fi_End_init
      lesser := fun vs cl cd sl tx tf h1 h2 => by
        rw [show K.lookup a.o_Lesser_init = _ from h_o_Lesser_init] at h1
        cases h1
        rw [h_x_Lesser_init] at h2
        cases h2
        exact h_fi_Lesser_init
      greater := fun vs cl cd sl tx tf h1 h2 => by
        rw [show K.lookup a.o_Greater_init = _ from h_o_Greater_init] at h1
        cases h1
        rw [h_x_Greater_init] at h2
        cases h2
        exact h_fi_Greater_init
      top := h_top
      nk_place := nk_Place
      nk_end := nk_End
      nk_lesser := nk_Lesser
      nk_greater := nk_Greater }
  have hfa : fa = f_law := by
    have e := hmg.symm.trans T.d_law.m
    cases e
    rfl
  subst hfa
  refine ⟨[], sp_law K, fun p hp => absurd hp List.not_mem_nil, fun p hp => absurd hp List.not_mem_nil, fun p hp => absurd hp List.not_mem_nil, ?_, ?_⟩
  · intro H b ns hn _ _ hS
    exact ⟨b, ns, rfl, hS, hn, fun _ => rfl⟩
  · intro base _ _ _
    exact ok_law T fl
end K13
open PySem PySem.W PyProof.Rows
set_option maxHeartbeats 0
open_top hd13 for PySem.Challenge.rw_rankchances_k13_texts_and_equal_terms
theorem PySem.Challenge.cw_rankchances_k13_texts_and_equal_terms_holds : PySem.Challenge.rw_rankchances_k13_texts_and_equal_terms.Holds := by
  refine hd13 ?_
  k_fill
  refine LG.walk_law (l := PySem.Challenge.rw_rankchances_k13_texts_and_equal_terms) (n := 63) (k := 16) rfl (by decide) rfl ⟨rfl, by decide, by decide⟩ (fun w h Y => PySem.W.kIn_of Y) ?F
  case F =>
    intro w mg fa h Y KX G hmg
    refine' K13.all_facts _ KX G hmg ?h_n__wall ?h_l__wall ?h_c__wall ?h_k__wall ?h_n_is_integer ?h_l_is_integer ?h_c_is_integer ?h_k_is_integer ?h_n_is_end ?h_l_is_end ?h_c_is_end ?h_k_is_end ?h_n_is_value ?h_l_is_value ?h_c_is_value ?h_k_is_value ?h_n_is_not_less ?h_l_is_not_less ?h_c_is_not_less ?h_k_is_not_less ?h_n_least_of ?h_l_least_of ?h_c_least_of ?h_k_least_of ?h_n_greatest_of ?h_l_greatest_of ?h_c_greatest_of ?h_k_greatest_of ?h_n_is_place ?h_l_is_place ?h_c_is_place ?h_k_is_place ?h_n_want_term ?h_l_want_term ?h_c_want_term ?h_k_want_term ?h_n_want_terms ?h_l_want_terms ?h_c_want_terms ?h_k_want_terms ?h_n_depth_above ?h_l_depth_above ?h_c_depth_above ?h_k_depth_above ?h_n_want_values ?h_l_want_values ?h_c_want_values ?h_k_want_values ?h_n_value_at ?h_l_value_at ?h_c_value_at ?h_k_value_at ?h_n_places_in ?h_l_places_in ?h_c_places_in ?h_k_places_in ?h_n_term_text ?h_l_term_text ?h_c_term_text ?h_k_term_text ?h_n_term_repr ?h_l_term_repr ?h_c_term_repr ?h_k_term_repr ?h_n__law_pot ?h_l__law_pot ?h_c__law_pot ?h_k__law_pot ?h_n__law_draw ?h_l__law_draw ?h_c__law_draw ?h_k__law_draw ?h_n__law_pick ?h_l__law_pick ?h_c__law_pick ?h_k__law_pick ?h_n__law_places ?h_l__law_places ?h_c__law_places ?h_k__law_places ?h_n__law_term ?h_l__law_term ?h_c__law_term ?h_k__law_term ?h_n__law_joined ?h_l__law_joined ?h_c__law_joined ?h_k__law_joined ?h_n__law_real ?h_l__law_real ?h_c__law_real ?h_k__law_real ?h_n__law_inner ?h_l__law_inner ?h_c__law_inner ?h_k__law_inner ?h_n__law_text ?h_l__law_text ?h_c__law_text ?h_k__law_text ?h_n__law_written ?h_l__law_written ?h_c__law_written ?h_k__law_written ?h_n__law_bent ?h_l__law_bent ?h_c__law_bent ?h_k__law_bent ?h_n__law_signs_right ?h_l__law_signs_right ?h_c__law_signs_right ?h_k__law_signs_right ?h_n__law_right ?h_l__law_right ?h_c__law_right ?h_k__law_right ?h_n_law ?h_l_law ?h_c_law ?h_k_law ?h_z_abs ?h_z_all ?h_z_any ?h_z_bool ?h_z_dict ?h_z_divmod ?h_z_int ?h_z_isinstance ?h_z_len ?h_z_list ?h_z_max ?h_z_min ?h_z_property ?h_z_range ?h_z_repr ?h_z_sorted ?h_z_str ?h_z_super ?h_v_BOTTOM ?h_v_TOP ?h_v_LEAST_PARTS ?h_v_ENDS ?h_l_ENDS ?h_v_PLACES ?h_l_PLACES ?e_hn ?e_ht ?e_n_HeldError ?e_l_HeldError ?e_r_HeldError ?e_sa_HeldError ?e_e1_HeldError ?e_e2_HeldError ?e_e3_HeldError ?e_i_HeldError ?e_v_HeldError ?e_ga_HeldError ?e_gg_HeldError ?e_hd_HeldError ?e_ha_HeldError ?e_hm_HeldError ?e_n_InvalidPlace ?e_l_InvalidPlace ?e_r_InvalidPlace ?e_sa_InvalidPlace ?e_e1_InvalidPlace ?e_e2_InvalidPlace ?e_e3_InvalidPlace ?e_i_InvalidPlace ?e_v_InvalidPlace ?e_ga_InvalidPlace ?e_gg_InvalidPlace ?e_hd_InvalidPlace ?e_ha_InvalidPlace ?e_hm_InvalidPlace ?e_n_InvalidEnd ?e_l_InvalidEnd ?e_r_InvalidEnd ?e_sa_InvalidEnd ?e_e1_InvalidEnd ?e_e2_InvalidEnd ?e_e3_InvalidEnd ?e_i_InvalidEnd ?e_v_InvalidEnd ?e_ga_InvalidEnd ?e_gg_InvalidEnd ?e_hd_InvalidEnd ?e_ha_InvalidEnd ?e_hm_InvalidEnd ?e_n_InvalidTerm ?e_l_InvalidTerm ?e_r_InvalidTerm ?e_sa_InvalidTerm ?e_e1_InvalidTerm ?e_e2_InvalidTerm ?e_e3_InvalidTerm ?e_i_InvalidTerm ?e_v_InvalidTerm ?e_ga_InvalidTerm ?e_gg_InvalidTerm ?e_hd_InvalidTerm ?e_ha_InvalidTerm ?e_hm_InvalidTerm ?e_n_InvalidValues ?e_l_InvalidValues ?e_r_InvalidValues ?e_sa_InvalidValues ?e_e1_InvalidValues ?e_e2_InvalidValues ?e_e3_InvalidValues ?e_i_InvalidValues ?e_v_InvalidValues ?e_ga_InvalidValues ?e_gg_InvalidValues ?e_hd_InvalidValues ?e_ha_InvalidValues ?e_hm_InvalidValues ?h_ti ?h_il ?h_ic ?h_ik ?h_iD ?h_any ?h_n_Term ?c_pg_Term ?c_hd_Term ?c_po_Term ?c_sa_Term ?c_ha_Term ?c_hm_Term ?c_ne_Term ?c_ty_Term ?c_sf_Term ?h_n_Place ?c_pg_Place ?c_hd_Place ?c_po_Place ?c_sa_Place ?c_ha_Place ?c_hm_Place ?c_ne_Place ?c_ty_Place ?c_sf_Place ?h_n_End ?c_pg_End ?c_hd_End ?c_po_End ?c_sa_End ?c_ha_End ?c_hm_End ?c_ne_End ?c_ty_End ?c_sf_End ?h_n_Lesser ?c_pg_Lesser ?c_hd_Lesser ?c_po_Lesser ?c_sa_Lesser ?c_ha_Lesser ?c_hm_Lesser ?c_ne_Lesser ?c_ty_Lesser ?c_sf_Lesser ?h_n_Greater ?c_pg_Greater ?c_hd_Greater ?c_po_Greater ?c_sa_Greater ?c_ha_Greater ?c_hm_Greater ?c_ne_Greater ?c_ty_Greater ?c_sf_Greater ?f_Term_init ?p_at_Term_depth ?f_Term_at ?f_Term_places ?f_Term_turned ?f_Term_put ?f_Term_and ?f_Term_or ?f_Term_str ?f_Term_repr ?f_Term_eq ?f_Place_init ?p_at_Place_name ?p_at_Place_depth ?f_Place_at ?f_Place_places ?f_Place_turned ?f_Place_put ?f_Place_and ?f_Place_or ?f_Place_str ?f_Place_repr ?f_Place_eq ?f_End_init ?p_at_End_end ?p_at_End_depth ?f_End_at ?f_End_places ?f_End_turned ?f_End_put ?f_End_and ?f_End_or ?f_End_str ?f_End_repr ?f_End_eq ?f_Lesser_init ?p_at_Lesser_parts ?p_at_Lesser_depth ?f_Lesser_at ?f_Lesser_places ?f_Lesser_turned ?f_Lesser_put ?f_Lesser_and ?f_Lesser_or ?f_Lesser_str ?f_Lesser_repr ?f_Lesser_eq ?f_Greater_init ?p_at_Greater_parts ?p_at_Greater_depth ?f_Greater_at ?f_Greater_places ?f_Greater_turned ?f_Greater_put ?f_Greater_and ?f_Greater_or ?f_Greater_str ?f_Greater_repr ?f_Greater_eq ?p_get_Term_depth ?p_tak_Term_depth ?p_rec_Term_depth ?p_get_Place_name ?p_tak_Place_name ?p_rec_Place_name ?p_get_End_end ?p_tak_End_end ?p_rec_End_end ?p_get_Lesser_parts ?p_tak_Lesser_parts ?p_rec_Lesser_parts ?p_get_Greater_parts ?p_tak_Greater_parts ?p_rec_Greater_parts ?h_l_Term_init ?h_c_Term_init ?h_k_Term_init ?h_fn_Term_init ?h_l_Term_depth ?h_c_Term_depth ?h_k_Term_depth ?h_fn_Term_depth ?h_l_Term_at ?h_c_Term_at ?h_k_Term_at ?h_fn_Term_at ?h_l_Term_places ?h_c_Term_places ?h_k_Term_places ?h_fn_Term_places ?h_l_Term_turned ?h_c_Term_turned ?h_k_Term_turned ?h_fn_Term_turned ?h_l_Term_put ?h_c_Term_put ?h_k_Term_put ?h_fn_Term_put ?h_l_Term_and ?h_c_Term_and ?h_k_Term_and ?h_fn_Term_and ?h_l_Term_or ?h_c_Term_or ?h_k_Term_or ?h_fn_Term_or ?h_l_Term_str ?h_c_Term_str ?h_k_Term_str ?h_fn_Term_str ?h_l_Term_repr ?h_c_Term_repr ?h_k_Term_repr ?h_fn_Term_repr ?h_l_Term_eq ?h_c_Term_eq ?h_k_Term_eq ?h_fn_Term_eq ?h_l_Place_init ?h_c_Place_init ?h_o_Place_init ?h_x_Place_init ?h_w_Place_init ?h_fi_Place_init ?h_fn_Place_init ?h_l_Place_name ?h_c_Place_name ?h_k_Place_name ?h_fn_Place_name ?h_l_End_init ?h_c_End_init ?h_o_End_init ?h_x_End_init ?h_w_End_init ?h_fi_End_init ?h_fn_End_init ?h_l_End_end ?h_c_End_end ?h_k_End_end ?h_fn_End_end ?h_l_Lesser_init ?h_c_Lesser_init ?h_o_Lesser_init ?h_x_Lesser_init ?h_w_Lesser_init ?h_fi_Lesser_init ?h_fn_Lesser_init ?h_l_Lesser_parts ?h_c_Lesser_parts ?h_k_Lesser_parts ?h_fn_Lesser_parts ?h_l_Greater_init ?h_c_Greater_init ?h_o_Greater_init ?h_x_Greater_init ?h_w_Greater_init ?h_fi_Greater_init ?h_fn_Greater_init ?h_l_Greater_parts ?h_c_Greater_parts ?h_k_Greater_parts ?h_fn_Greater_parts ?mk_Term ?kp_Term ?rand_Term ?ror_Term ?na_Term_own_depth ?s_sub_Place ?s_sup_Place ?s_ty_m_Term_init ?s_fn_m_Term_init ?mk_Place ?kp_Place ?rand_Place ?ror_Place ?na_Place_own_depth ?na_Place_own_name ?s_sub_End ?s_sup_End ?mk_End ?kp_End ?rand_End ?ror_End ?na_End_own_depth ?na_End_own_end ?s_sub_Lesser ?s_sup_Lesser ?mk_Lesser ?kp_Lesser ?rand_Lesser ?ror_Lesser ?na_Lesser_own_depth ?na_Lesser_own_parts ?s_sub_Greater ?s_sup_Greater ?mk_Greater ?kp_Greater ?rand_Greater ?ror_Greater ?na_Greater_own_depth ?na_Greater_own_parts ?x_Term_Term ?x_Term_Place ?x_Term_End ?x_Term_Lesser ?x_Term_Greater ?x_Place_Term ?x_Place_Place ?x_Place_End ?x_Place_Lesser ?x_Place_Greater ?x_End_Term ?x_End_Place ?x_End_End ?x_End_Lesser ?x_End_Greater ?x_Lesser_Term ?x_Lesser_Place ?x_Lesser_End ?x_Lesser_Lesser ?x_Lesser_Greater ?x_Greater_Term ?x_Greater_Place ?x_Greater_End ?x_Greater_Lesser ?x_Greater_Greater ?x_HeldError_HeldError ?x_HeldError_InvalidPlace ?x_HeldError_InvalidEnd ?x_HeldError_InvalidTerm ?x_HeldError_InvalidValues ?x_InvalidPlace_HeldError ?x_InvalidPlace_InvalidPlace ?x_InvalidPlace_InvalidEnd ?x_InvalidPlace_InvalidTerm ?x_InvalidPlace_InvalidValues ?x_InvalidEnd_HeldError ?x_InvalidEnd_InvalidPlace ?x_InvalidEnd_InvalidEnd ?x_InvalidEnd_InvalidTerm ?x_InvalidEnd_InvalidValues ?x_InvalidTerm_HeldError ?x_InvalidTerm_InvalidPlace ?x_InvalidTerm_InvalidEnd ?x_InvalidTerm_InvalidTerm ?x_InvalidTerm_InvalidValues ?x_InvalidValues_HeldError ?x_InvalidValues_InvalidPlace ?x_InvalidValues_InvalidEnd ?x_InvalidValues_InvalidTerm ?x_InvalidValues_InvalidValues ?y_HeldError ?y_InvalidPlace ?y_InvalidEnd ?y_InvalidTerm ?y_InvalidValues ?nk_Place ?nk_End ?nk_Lesser ?nk_Greater ?h_top
    (case h_n__wall => k_is)
    (case h_l__wall => k_is)
    (case h_c__wall => k_is)
    (case h_k__wall => k_is)
    (case h_n_is_integer => k_is)
    (case h_l_is_integer => k_is)
    (case h_c_is_integer => k_is)
    (case h_k_is_integer => k_is)
    (case h_n_is_end => k_is)
    (case h_l_is_end => k_is)
    (case h_c_is_end => k_is)
    (case h_k_is_end => k_is)
    (case h_n_is_value => k_is)
    (case h_l_is_value => k_is)
    (case h_c_is_value => k_is)
    (case h_k_is_value => k_is)
    (case h_n_is_not_less => k_is)
    (case h_l_is_not_less => k_is)
    (case h_c_is_not_less => k_is)
    (case h_k_is_not_less => k_is)
    (case h_n_least_of => k_is)
    (case h_l_least_of => k_is)
    (case h_c_least_of => k_is)
    (case h_k_least_of => k_is)
    (case h_n_greatest_of => k_is)
    (case h_l_greatest_of => k_is)
    (case h_c_greatest_of => k_is)
    (case h_k_greatest_of => k_is)
    (case h_n_is_place => k_is)
    (case h_l_is_place => k_is)
    (case h_c_is_place => k_is)
    (case h_k_is_place => k_is)
    (case h_n_want_term => k_is)
    (case h_l_want_term => k_is)
    (case h_c_want_term => k_is)
    (case h_k_want_term => k_is)
    (case h_n_want_terms => k_is)
    (case h_l_want_terms => k_is)
    (case h_c_want_terms => k_is)
    (case h_k_want_terms => k_is)
    (case h_n_depth_above => k_is)
    (case h_l_depth_above => k_is)
    (case h_c_depth_above => k_is)
    (case h_k_depth_above => k_is)
    (case h_n_want_values => k_is)
    (case h_l_want_values => k_is)
    (case h_c_want_values => k_is)
    (case h_k_want_values => k_is)
    (case h_n_value_at => k_is)
    (case h_l_value_at => k_is)
    (case h_c_value_at => k_is)
    (case h_k_value_at => k_is)
    (case h_n_places_in => k_is)
    (case h_l_places_in => k_is)
    (case h_c_places_in => k_is)
    (case h_k_places_in => k_is)
    (case h_n_term_text => k_is)
    (case h_l_term_text => k_is)
    (case h_c_term_text => k_is)
    (case h_k_term_text => k_is)
    (case h_n_term_repr => k_is)
    (case h_l_term_repr => k_is)
    (case h_c_term_repr => k_is)
    (case h_k_term_repr => k_is)
    (case h_n__law_pot => k_is)
    (case h_l__law_pot => k_is)
    (case h_c__law_pot => k_is)
    (case h_k__law_pot => k_is)
    (case h_n__law_draw => k_is)
    (case h_l__law_draw => k_is)
    (case h_c__law_draw => k_is)
    (case h_k__law_draw => k_is)
    (case h_n__law_pick => k_is)
    (case h_l__law_pick => k_is)
    (case h_c__law_pick => k_is)
    (case h_k__law_pick => k_is)
    (case h_n__law_places => k_is)
    (case h_l__law_places => k_is)
    (case h_c__law_places => k_is)
    (case h_k__law_places => k_is)
    (case h_n__law_term => k_is)
    (case h_l__law_term => k_is)
    (case h_c__law_term => k_is)
    (case h_k__law_term => k_is)
    (case h_n__law_joined => k_is)
    (case h_l__law_joined => k_is)
    (case h_c__law_joined => k_is)
    (case h_k__law_joined => k_is)
    (case h_n__law_real => k_is)
    (case h_l__law_real => k_is)
    (case h_c__law_real => k_is)
    (case h_k__law_real => k_is)
    (case h_n__law_inner => k_is)
    (case h_l__law_inner => k_is)
    (case h_c__law_inner => k_is)
    (case h_k__law_inner => k_is)
    (case h_n__law_text => k_is)
    (case h_l__law_text => k_is)
    (case h_c__law_text => k_is)
    (case h_k__law_text => k_is)
    (case h_n__law_written => k_is)
    (case h_l__law_written => k_is)
    (case h_c__law_written => k_is)
    (case h_k__law_written => k_is)
    (case h_n__law_bent => k_is)
    (case h_l__law_bent => k_is)
    (case h_c__law_bent => k_is)
    (case h_k__law_bent => k_is)
    (case h_n__law_signs_right => k_is)
    (case h_l__law_signs_right => k_is)
    (case h_c__law_signs_right => k_is)
    (case h_k__law_signs_right => k_is)
    (case h_n__law_right => k_is)
    (case h_l__law_right => k_is)
    (case h_c__law_right => k_is)
    (case h_k__law_right => k_is)
    (case h_n_law => k_is)
    (case h_l_law => k_is)
    (case h_c_law => k_is)
    (case h_k_law => k_is)
    (case h_z_abs => k_is)
    (case h_z_all => k_is)
    (case h_z_any => k_is)
    (case h_z_bool => k_is)
    (case h_z_dict => k_is)
    (case h_z_divmod => k_is)
    (case h_z_int => k_is)
    (case h_z_isinstance => k_is)
    (case h_z_len => k_is)
    (case h_z_list => k_is)
    (case h_z_max => k_is)
    (case h_z_min => k_is)
    (case h_z_property => k_is)
    (case h_z_range => k_is)
    (case h_z_repr => k_is)
    (case h_z_sorted => k_is)
    (case h_z_str => k_is)
    (case h_z_super => k_is)
    (case h_v_BOTTOM => k_is)
    (case h_v_TOP => k_is)
    (case h_v_LEAST_PARTS => k_is)
    (case h_v_ENDS => k_is)
    (case h_l_ENDS => k_is)
    (case h_v_PLACES => k_is)
    (case h_l_PLACES => k_is)
    (case e_hn => k_is)
    (case e_ht => k_is)
    (case e_n_HeldError => k_is)
    (case e_l_HeldError => k_is)
    (case e_r_HeldError => first | kernel_rfl | exact rfl)
    (case e_sa_HeldError => k_is)
    (case e_e1_HeldError => k_is)
    (case e_e2_HeldError => k_is)
    (case e_e3_HeldError => k_is)
    (case e_i_HeldError => k_is)
    (case e_v_HeldError => k_is)
    (case e_ga_HeldError => k_is)
    (case e_gg_HeldError => k_is)
    (case e_hd_HeldError => k_is)
    (case e_ha_HeldError => k_is)
    (case e_hm_HeldError => k_is)
    (case e_n_InvalidPlace => k_is)
    (case e_l_InvalidPlace => k_is)
    (case e_r_InvalidPlace => first | kernel_rfl | exact rfl)
    (case e_sa_InvalidPlace => k_is)
    (case e_e1_InvalidPlace => k_is)
    (case e_e2_InvalidPlace => k_is)
    (case e_e3_InvalidPlace => k_is)
    (case e_i_InvalidPlace => k_is)
    (case e_v_InvalidPlace => k_is)
    (case e_ga_InvalidPlace => k_is)
    (case e_gg_InvalidPlace => k_is)
    (case e_hd_InvalidPlace => k_is)
    (case e_ha_InvalidPlace => k_is)
    (case e_hm_InvalidPlace => k_is)
    (case e_n_InvalidEnd => k_is)
    (case e_l_InvalidEnd => k_is)
    (case e_r_InvalidEnd => first | kernel_rfl | exact rfl)
    (case e_sa_InvalidEnd => k_is)
    (case e_e1_InvalidEnd => k_is)
    (case e_e2_InvalidEnd => k_is)
    (case e_e3_InvalidEnd => k_is)
    (case e_i_InvalidEnd => k_is)
    (case e_v_InvalidEnd => k_is)
    (case e_ga_InvalidEnd => k_is)
    (case e_gg_InvalidEnd => k_is)
    (case e_hd_InvalidEnd => k_is)
    (case e_ha_InvalidEnd => k_is)
    (case e_hm_InvalidEnd => k_is)
    (case e_n_InvalidTerm => k_is)
    (case e_l_InvalidTerm => k_is)
    (case e_r_InvalidTerm => first | kernel_rfl | exact rfl)
    (case e_sa_InvalidTerm => k_is)
    (case e_e1_InvalidTerm => k_is)
    (case e_e2_InvalidTerm => k_is)
    (case e_e3_InvalidTerm => k_is)
    (case e_i_InvalidTerm => k_is)
    (case e_v_InvalidTerm => k_is)
    (case e_ga_InvalidTerm => k_is)
    (case e_gg_InvalidTerm => k_is)
    (case e_hd_InvalidTerm => k_is)
    (case e_ha_InvalidTerm => k_is)
    (case e_hm_InvalidTerm => k_is)
    (case e_n_InvalidValues => k_is)
    (case e_l_InvalidValues => k_is)
    (case e_r_InvalidValues => first | kernel_rfl | exact rfl)
    (case e_sa_InvalidValues => k_is)
    (case e_e1_InvalidValues => k_is)
    (case e_e2_InvalidValues => k_is)
    (case e_e3_InvalidValues => k_is)
    (case e_i_InvalidValues => k_is)
    (case e_v_InvalidValues => k_is)
    (case e_ga_InvalidValues => k_is)
    (case e_gg_InvalidValues => k_is)
    (case e_hd_InvalidValues => k_is)
    (case e_ha_InvalidValues => k_is)
    (case e_hm_InvalidValues => k_is)
    (case h_ti => k_is)
    (case h_il => k_is)
    (case h_ic => k_is)
    (case h_ik => k_is)
    (case h_iD => k_is)
    (case h_any => k_is)
    (case h_n_Term => k_is)
    (case c_pg_Term => k_is)
    (case c_hd_Term => k_is)
    (case c_po_Term => k_is)
    (case c_sa_Term => k_is)
    (case c_ha_Term => k_is)
    (case c_hm_Term => k_is)
    (case c_ne_Term => k_is)
    (case c_ty_Term => k_is)
    (case c_sf_Term => k_is)
    (case h_n_Place => k_is)
    (case c_pg_Place => k_is)
    (case c_hd_Place => k_is)
    (case c_po_Place => k_is)
    (case c_sa_Place => k_is)
    (case c_ha_Place => k_is)
    (case c_hm_Place => k_is)
    (case c_ne_Place => k_is)
    (case c_ty_Place => k_is)
    (case c_sf_Place => k_is)
    (case h_n_End => k_is)
    (case c_pg_End => k_is)
    (case c_hd_End => k_is)
    (case c_po_End => k_is)
    (case c_sa_End => k_is)
    (case c_ha_End => k_is)
    (case c_hm_End => k_is)
    (case c_ne_End => k_is)
    (case c_ty_End => k_is)
    (case c_sf_End => k_is)
    (case h_n_Lesser => k_is)
    (case c_pg_Lesser => k_is)
    (case c_hd_Lesser => k_is)
    (case c_po_Lesser => k_is)
    (case c_sa_Lesser => k_is)
    (case c_ha_Lesser => k_is)
    (case c_hm_Lesser => k_is)
    (case c_ne_Lesser => k_is)
    (case c_ty_Lesser => k_is)
    (case c_sf_Lesser => k_is)
    (case h_n_Greater => k_is)
    (case c_pg_Greater => k_is)
    (case c_hd_Greater => k_is)
    (case c_po_Greater => k_is)
    (case c_sa_Greater => k_is)
    (case c_ha_Greater => k_is)
    (case c_hm_Greater => k_is)
    (case c_ne_Greater => k_is)
    (case c_ty_Greater => k_is)
    (case c_sf_Greater => k_is)
    (case f_Term_init => k_is)
    (case p_at_Term_depth => k_is)
    (case f_Term_at => k_is)
    (case f_Term_places => k_is)
    (case f_Term_turned => k_is)
    (case f_Term_put => k_is)
    (case f_Term_and => k_is)
    (case f_Term_or => k_is)
    (case f_Term_str => k_is)
    (case f_Term_repr => k_is)
    (case f_Term_eq => k_is)
    (case f_Place_init => k_is)
    (case p_at_Place_name => k_is)
    (case p_at_Place_depth => k_is)
    (case f_Place_at => k_is)
    (case f_Place_places => k_is)
    (case f_Place_turned => k_is)
    (case f_Place_put => k_is)
    (case f_Place_and => k_is)
    (case f_Place_or => k_is)
    (case f_Place_str => k_is)
    (case f_Place_repr => k_is)
    (case f_Place_eq => k_is)
    (case f_End_init => k_is)
    (case p_at_End_end => k_is)
    (case p_at_End_depth => k_is)
    (case f_End_at => k_is)
    (case f_End_places => k_is)
    (case f_End_turned => k_is)
    (case f_End_put => k_is)
    (case f_End_and => k_is)
    (case f_End_or => k_is)
    (case f_End_str => k_is)
    (case f_End_repr => k_is)
    (case f_End_eq => k_is)
    (case f_Lesser_init => k_is)
    (case p_at_Lesser_parts => k_is)
    (case p_at_Lesser_depth => k_is)
    (case f_Lesser_at => k_is)
    (case f_Lesser_places => k_is)
    (case f_Lesser_turned => k_is)
    (case f_Lesser_put => k_is)
    (case f_Lesser_and => k_is)
    (case f_Lesser_or => k_is)
    (case f_Lesser_str => k_is)
    (case f_Lesser_repr => k_is)
    (case f_Lesser_eq => k_is)
    (case f_Greater_init => k_is)
    (case p_at_Greater_parts => k_is)
    (case p_at_Greater_depth => k_is)
    (case f_Greater_at => k_is)
    (case f_Greater_places => k_is)
    (case f_Greater_turned => k_is)
    (case f_Greater_put => k_is)
    (case f_Greater_and => k_is)
    (case f_Greater_or => k_is)
    (case f_Greater_str => k_is)
    (case f_Greater_repr => k_is)
    (case f_Greater_eq => k_is)
    (case p_get_Term_depth => k_is)
    (case p_tak_Term_depth => k_is)
    (case p_rec_Term_depth => first | exact rfl | k_is)
    (case p_get_Place_name => k_is)
    (case p_tak_Place_name => k_is)
    (case p_rec_Place_name => first | exact rfl | k_is)
    (case p_get_End_end => k_is)
    (case p_tak_End_end => k_is)
    (case p_rec_End_end => first | exact rfl | k_is)
    (case p_get_Lesser_parts => k_is)
    (case p_tak_Lesser_parts => k_is)
    (case p_rec_Lesser_parts => first | exact rfl | k_is)
    (case p_get_Greater_parts => k_is)
    (case p_tak_Greater_parts => k_is)
    (case p_rec_Greater_parts => first | exact rfl | k_is)
    (case h_l_Term_init => k_is)
    (case h_c_Term_init => k_is)
    (case h_k_Term_init => k_is)
    (case h_fn_Term_init => k_is)
    (case h_l_Term_depth => k_is)
    (case h_c_Term_depth => k_is)
    (case h_k_Term_depth => k_is)
    (case h_fn_Term_depth => k_is)
    (case h_l_Term_at => k_is)
    (case h_c_Term_at => k_is)
    (case h_k_Term_at => k_is)
    (case h_fn_Term_at => k_is)
    (case h_l_Term_places => k_is)
    (case h_c_Term_places => k_is)
    (case h_k_Term_places => k_is)
    (case h_fn_Term_places => k_is)
    (case h_l_Term_turned => k_is)
    (case h_c_Term_turned => k_is)
    (case h_k_Term_turned => k_is)
    (case h_fn_Term_turned => k_is)
    (case h_l_Term_put => k_is)
    (case h_c_Term_put => k_is)
    (case h_k_Term_put => k_is)
    (case h_fn_Term_put => k_is)
    (case h_l_Term_and => k_is)
    (case h_c_Term_and => k_is)
    (case h_k_Term_and => k_is)
    (case h_fn_Term_and => k_is)
    (case h_l_Term_or => k_is)
    (case h_c_Term_or => k_is)
    (case h_k_Term_or => k_is)
    (case h_fn_Term_or => k_is)
    (case h_l_Term_str => k_is)
    (case h_c_Term_str => k_is)
    (case h_k_Term_str => k_is)
    (case h_fn_Term_str => k_is)
    (case h_l_Term_repr => k_is)
    (case h_c_Term_repr => k_is)
    (case h_k_Term_repr => k_is)
    (case h_fn_Term_repr => k_is)
    (case h_l_Term_eq => k_is)
    (case h_c_Term_eq => k_is)
    (case h_k_Term_eq => k_is)
    (case h_fn_Term_eq => k_is)
    (case h_l_Place_init => k_is)
    (case h_c_Place_init => k_is)
    (case h_o_Place_init => k_is)
    (case h_x_Place_init => first | exact rfl | k_is)
    (case h_w_Place_init => k_is)
    (case h_fi_Place_init => first | kernel_rfl | exact rfl)
    (case h_fn_Place_init => k_is)
    (case h_l_Place_name => k_is)
    (case h_c_Place_name => k_is)
    (case h_k_Place_name => k_is)
    (case h_fn_Place_name => k_is)
    (case h_l_End_init => k_is)
    (case h_c_End_init => k_is)
    (case h_o_End_init => k_is)
    (case h_x_End_init => first | exact rfl | k_is)
    (case h_w_End_init => k_is)
    (case h_fi_End_init => first | kernel_rfl | exact rfl)
    (case h_fn_End_init => k_is)
    (case h_l_End_end => k_is)
    (case h_c_End_end => k_is)
    (case h_k_End_end => k_is)
    (case h_fn_End_end => k_is)
    (case h_l_Lesser_init => k_is)
    (case h_c_Lesser_init => k_is)
    (case h_o_Lesser_init => k_is)
    (case h_x_Lesser_init => first | exact rfl | k_is)
    (case h_w_Lesser_init => k_is)
    (case h_fi_Lesser_init => first | kernel_rfl | exact rfl)
    (case h_fn_Lesser_init => k_is)
    (case h_l_Lesser_parts => k_is)
    (case h_c_Lesser_parts => k_is)
    (case h_k_Lesser_parts => k_is)
    (case h_fn_Lesser_parts => k_is)
    (case h_l_Greater_init => k_is)
    (case h_c_Greater_init => k_is)
    (case h_o_Greater_init => k_is)
    (case h_x_Greater_init => first | exact rfl | k_is)
    (case h_w_Greater_init => k_is)
    (case h_fi_Greater_init => first | kernel_rfl | exact rfl)
    (case h_fn_Greater_init => k_is)
    (case h_l_Greater_parts => k_is)
    (case h_c_Greater_parts => k_is)
    (case h_k_Greater_parts => k_is)
    (case h_fn_Greater_parts => k_is)
    (case mk_Term => k_is)
    (case kp_Term => k_is)
    (case rand_Term => k_is)
    (case ror_Term => k_is)
    (case na_Term_own_depth => k_is)
    (case s_sub_Place => k_is)
    (case s_sup_Place => ks_is)
    (case s_ty_m_Term_init => k_is)
    (case s_fn_m_Term_init => k_is)
    (case mk_Place => k_is)
    (case kp_Place => k_is)
    (case rand_Place => k_is)
    (case ror_Place => k_is)
    (case na_Place_own_depth => k_is)
    (case na_Place_own_name => k_is)
    (case s_sub_End => k_is)
    (case s_sup_End => ks_is)
    (case mk_End => k_is)
    (case kp_End => k_is)
    (case rand_End => k_is)
    (case ror_End => k_is)
    (case na_End_own_depth => k_is)
    (case na_End_own_end => k_is)
    (case s_sub_Lesser => k_is)
    (case s_sup_Lesser => ks_is)
    (case mk_Lesser => k_is)
    (case kp_Lesser => k_is)
    (case rand_Lesser => k_is)
    (case ror_Lesser => k_is)
    (case na_Lesser_own_depth => k_is)
    (case na_Lesser_own_parts => k_is)
    (case s_sub_Greater => k_is)
    (case s_sup_Greater => ks_is)
    (case mk_Greater => k_is)
    (case kp_Greater => k_is)
    (case rand_Greater => k_is)
    (case ror_Greater => k_is)
    (case na_Greater_own_depth => k_is)
    (case na_Greater_own_parts => k_is)
    (case x_Term_Term => k_is)
    (case x_Term_Place => k_is)
    (case x_Term_End => k_is)
    (case x_Term_Lesser => k_is)
    (case x_Term_Greater => k_is)
    (case x_Place_Term => k_is)
    (case x_Place_Place => k_is)
    (case x_Place_End => k_is)
    (case x_Place_Lesser => k_is)
    (case x_Place_Greater => k_is)
    (case x_End_Term => k_is)
    (case x_End_Place => k_is)
    (case x_End_End => k_is)
    (case x_End_Lesser => k_is)
    (case x_End_Greater => k_is)
    (case x_Lesser_Term => k_is)
    (case x_Lesser_Place => k_is)
    (case x_Lesser_End => k_is)
    (case x_Lesser_Lesser => k_is)
    (case x_Lesser_Greater => k_is)
    (case x_Greater_Term => k_is)
    (case x_Greater_Place => k_is)
    (case x_Greater_End => k_is)
    (case x_Greater_Lesser => k_is)
    (case x_Greater_Greater => k_is)
    (case x_HeldError_HeldError => k_is)
    (case x_HeldError_InvalidPlace => k_is)
    (case x_HeldError_InvalidEnd => k_is)
    (case x_HeldError_InvalidTerm => k_is)
    (case x_HeldError_InvalidValues => k_is)
    (case x_InvalidPlace_HeldError => k_is)
    (case x_InvalidPlace_InvalidPlace => k_is)
    (case x_InvalidPlace_InvalidEnd => k_is)
    (case x_InvalidPlace_InvalidTerm => k_is)
    (case x_InvalidPlace_InvalidValues => k_is)
    (case x_InvalidEnd_HeldError => k_is)
    (case x_InvalidEnd_InvalidPlace => k_is)
    (case x_InvalidEnd_InvalidEnd => k_is)
    (case x_InvalidEnd_InvalidTerm => k_is)
    (case x_InvalidEnd_InvalidValues => k_is)
    (case x_InvalidTerm_HeldError => k_is)
    (case x_InvalidTerm_InvalidPlace => k_is)
    (case x_InvalidTerm_InvalidEnd => k_is)
    (case x_InvalidTerm_InvalidTerm => k_is)
    (case x_InvalidTerm_InvalidValues => k_is)
    (case x_InvalidValues_HeldError => k_is)
    (case x_InvalidValues_InvalidPlace => k_is)
    (case x_InvalidValues_InvalidEnd => k_is)
    (case x_InvalidValues_InvalidTerm => k_is)
    (case x_InvalidValues_InvalidValues => k_is)
    (case y_HeldError => k_is)
    (case y_InvalidPlace => k_is)
    (case y_InvalidEnd => k_is)
    (case y_InvalidTerm => k_is)
    (case y_InvalidValues => k_is)
    (case nk_Place => first | kernel_rfl | exact rfl)
    (case nk_End => first | kernel_rfl | exact rfl)
    (case nk_Lesser => first | kernel_rfl | exact rfl)
    (case nk_Greater => first | kernel_rfl | exact rfl)
    (case h_top => first | kernel_rfl | exact rfl)
