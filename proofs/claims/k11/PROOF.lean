import PyProof.Rows.All
import Wide.All
import OpenK.AllK
import Wide.FinOn
import HandS.ForMost
import HandS.ForExc
import HandS.Lambda
import HandS.EndTab
import HandS.RaiseMore
import HandS.IsInst
import PyProof.ReprRoads
import PyProof.CallFns
import HandS.ExcIs
import HandS.ExcField
import HandS.ExcInit
import HandS.TryMany
import KE.KExcIs
import HandS.Strs
import HandS.SetFor
import HandS.SetBool
import HandS.Star
import HandS.Style
import HandS.WideBits
import HandS.More
import HandS.Small
import HandS.Defaults
import HandS.Evl
import HandS.TupLe
import KE.KNestM
import HandS.Words
import PySem.Challenge.RW_rankchances_k11_values_levels_and_extrem
set_option Elab.async false
set_option linter.all false
set_option maxRecDepth 100000
set_option maxHeartbeats 4000000
/-! General rules: a def's promise where no repr runs (Fn), repr of data. -/
namespace LG
open PySem PySem.Spec PyProof.Rows L2

/-! ### Fn: a promise by positional values, told where no guard is on the stack -/
def Fn (P : Program) (w : World) (K : PySem.W.Frag) (mg : Str → Option Value) (base : Heap) (k : Nat) (f : Addr) (sp : Sp) : Prop :=
  ∀ (A : Around) (outer : List Env) (s : Shared) (H : Hp) (us : List Value) (vs : List V) (Q : VK) (E : XK),
    A.guards = some [] → Room k A → Env0 P w K mg base A outer s H → Vals vs us → sp vs H Q E →
    codeAny (model P w) A (.call (.ref f) ⟨us, []⟩) (CR (L2.CX P w) outer P w H s Q E) s
section
variable {P : Program} {w : World} {K : PySem.W.Frag} {mg : Str → Option Value} {base : Heap} {j k : Nat} {f : Addr} {sp sp' : Sp}
theorem Fn.mono (F : Fn P w K mg base j f sp) (h : j ≤ k) : Fn P w K mg base k f sp :=
  fun A o s H us vs Q E g r => F A o s H us vs Q E g (r.mono h)
theorem Fn.imp (F : Fn P w K mg base k f sp) (h : ∀ vs H Q E, sp' vs H Q E → sp vs H Q E) : Fn P w K mg base k f sp' :=
  fun A o s H us vs Q E g r e0 rv z => F A o s H us vs Q E g r e0 rv (h _ _ _ _ z)
/-- a def of the text (no defaults used), by its body -/
theorem Fn.of {x qual : Str} {st : Stmt} {fd : FuncData} {N ps : List Str} (F : Fun K x qual st f fd) (S : FnScope N ps (defScope st)) (hb : Binds K fd ps [])
    (len : ∀ vs H Q E, sp vs H Q E → vs.length = ps.length)
    (body : ∀ (cdv : Value) (A : Around) (outer : List Env) (s : Shared) (H : Hp) (vs : List V) (Q : VK) (E : XK), A.guards = some [] →
      Room k (A.deeper (envOfC qual (defScope st) s.heap.objs.size f cdv)) → PySem.W.codeIn K cdv qual = true → sp vs H Q E →
      ∃ t, PSs (cxOf (L2.CX P w) P w K mg base N qual (defScope st) f cdv A outer s H E) (defBody st) t ∧ t { nx := fun _ H' => Q .non H', rt := Q } (start N vs) H) :
    Fn P w K mg base (k + 1) f sp := by
  intro A outer s H us vs Q E hg hr e0 rv hsp
  obtain ⟨oc, od, kV, doc, pm, an, cdv, ct, osl, rfl, lk, hcd⟩ := F.ex
  have hl := len _ _ _ _ hsp
  have KX : K.In s.heap := e0.mod.kin.keeps fun b o e => (e0.bs b o e).1
  have hul : us.length = ps.length := by rw [← rv.length]; exact hl
  have hb' := hb s us KX (by rw [List.append_nil]; exact hul)
  rw [List.append_nil] at hb'
  exact LamX.run_ofS lk hcd S hr e0 hb' rv hl fun hr' => body cdv A outer s H vs Q E hg hr' hcd hsp
end
section
variable {X : Cx} {k : Nat} {f : Addr} {sp : Sp} {E : XK} {x : Str} {p pos : Pos} {e : Expr} {es : List Expr} {t : TA}
theorem run_Fn {pins : List (Addr × Obj)} {σ : L2.St} {H : Hp} {s : Shared} {Q : VK} {us : List Value} {vs : List V} (F : Fn X.prog X.w X.K X.mg X.base k f sp) (g0 : X.A.guards = some []) (hr : Room k X.A)
    (hx : Passes (L2.CX X.prog X.w) X E) (I : Inv X pins σ H s) (r : Vals vs us) (h : sp vs H Q E) : wpAny (model X.prog X.w) X.A (call (.ref f) us) (EP X pins σ Q) X.xe s := by
  refine wpAny_call (codeAny_mono (F X.A X.stack s H us vs Q E g0 hr I.env0 r h) fun res s' hq => ?_)
  match res, hq with
  | .error e, hq => exact hx pins σ H s e s' I hq
  | .ok (.ret u), hq => exact I.after hq
  | .ok .next, hq => exact hq.elim
  | .ok .brk, hq => exact hq.elim
  | .ok .cont, hq => exact hq.elim
/-- f(e, ..) -/
def tFn (sp : Sp) (E : XK) (t : TA) : TE := fun σ H Q => t σ H fun vs H1 => sp vs H1 Q E
theorem pe_fn (F : Fn X.prog X.w X.K X.mg X.base k f sp) (g0 : X.A.guards = some []) (hr : Room k X.A) (hk : PySem.W.keepIn X.K (.ref f) = true) (hm : X.mg x = some (.ref f)) (hg : Gl X x) (hx : Passes (L2.CX X.prog X.w) X E)
    (ha : PA X (e :: es) t) (hdb : (x == ("__debug__" : Str)) = false := by decide) (he : starEach (e :: es) X.env = (false, eval e X.env) :: starEach es X.env := by rfl)
    (hpl : (backTo pos (starEach es X.env)).any (·.1) = false := by rfl) : PE X (.Call (.Name x p) (e :: es) [] pos) (tFn sp E t) := by
  constructor
  intro pins s σ H Q I h
  refine wpAny_Call_Name_kw (ld_glob I hg hm (PySem.W.callWith_K (h₀ := X.base) I.ok.mod.kin hk (thn (ha.run pos pins s σ H _ I h) ?_) he hpl) hdb)
  rintro us s1 ⟨vs, H1, I1, r, q⟩
  exact ⟨I1.kIn, run_Fn F g0 hr hx I1 r q⟩
/-- f() -/
theorem pe_fn0 (F : Fn X.prog X.w X.K X.mg X.base k f sp) (g0 : X.A.guards = some []) (hr : Room k X.A) (hk : PySem.W.keepIn X.K (.ref f) = true) (hm : X.mg x = some (.ref f)) (hg : Gl X x) (hx : Passes (L2.CX X.prog X.w) X E)
    (hdb : (x == ("__debug__" : Str)) = false := by decide) : PE X (.Call (.Name x p) [] [] pos) (fun _ H Q => sp [] H Q E) := by
  constructor
  intro pins s σ H Q I h
  exact wpAny_Call_Name_kw (ld_glob I hg hm (PySem.W.callWith_K0 I.kIn hk (run_Fn (us := []) F g0 hr hx I .nil h)) hdb)
end

/-! ### data of any depth, dicts among it: what repr tells of it -/
def plainD : PyData → Bool
  | .none | .bool _ | .int _ | .str _ => true
  | _ => false
mutual
inductive Dq (K : PySem.W.Frag) (H : Hp) : V → PyData → Prop
  | non : Dq K H .non .none
  | bl (b : Bool) : Dq K H (.bl b) (.bool b)
  | int (i : Int) : Dq K H (.int i) (.int i)
  | str (x : Str) : Dq K H (.str x) (.str x)
  | lst {a : Addr} {xs : List V} {ds : List PyData} : SqL K H a xs → DqAll K H xs ds → a ≠ sysModules → Dq K H (.ref a) (.list ds)
  | tup {a : Addr} {xs : List V} {ds : List PyData} : SqT K H a xs → DqAll K H xs ds → Dq K H (.ref a) (.tuple ds)
  | dic {a : Addr} {kvs : List (Key × V)} {ds : List (PyData × PyData)} : H a = some (.dK kvs) → DqKv K H kvs ds → Dq K H (.ref a) (.dict ds)
inductive DqAll (K : PySem.W.Frag) (H : Hp) : List V → List PyData → Prop
  | nil : DqAll K H [] []
  | cons {v : V} {vs : List V} {d : PyData} {ds : List PyData} : Dq K H v d → DqAll K H vs ds → DqAll K H (v :: vs) (d :: ds)
inductive DqKv (K : PySem.W.Frag) (H : Hp) : List (Key × V) → List (PyData × PyData) → Prop
  | nil : DqKv K H [] []
  | cons {k : Key} {v : V} {vs : List (Key × V)} {dk d : PyData} {ds : List (PyData × PyData)} : Dq K H (kV k) dk → plainD dk = true → Dq K H v d → plainD d = true → DqKv K H vs ds → DqKv K H ((k, v) :: vs) ((dk, d) :: ds)
end
section
variable {X : Cx} {pins : List (Addr × Obj)} {σ : L2.St} {H : Hp} {s : Shared}
theorem plain_reads {h : Heap} {v : V} {u : Value} {d : PyData} {K : PySem.W.Frag} (q : Dq K H v d) (p : plainD d = true) (r : RelV v u) : Reads h u d [] := by
  cases q with
  | non => cases r; exact .none
  | bl b => cases r; exact .bool b
  | int i => obtain ⟨t, rfl⟩ := r; exact .int i t
  | str x => obtain ⟨t, rfl⟩ := r; exact .str x t
  | lst _ _ _ => cases p
  | tup _ _ => cases p
  | dic _ _ => cases p
theorem key_rel {k : Key} {u : Value} (h : keyIs k u = true) : RelV (kV k) u := by
  rcases keyIs_shape h with ⟨i, t, rfl, rfl⟩ | ⟨x, t, rfl, rfl⟩
  · exact ⟨t, rfl⟩
  · exact ⟨t, rfl⟩
theorem kv_reads {h : Heap} {K : PySem.W.Frag} {P : Program} {w : World} : ∀ {kvs : List (Key × V)} {ds : List (PyData × PyData)} {vs : List (Key × Value)} {es : List DictEntry}, DqKv K H kvs ds → KV kvs vs → Pairs (mixKind P w) es vs →
    ReadsAll h (es.map (·.key)) (ds.map (·.1)) [] ∧ ReadsAll h (es.map (·.val)) (ds.map (·.2)) []
  | _, _, _, _, .nil, .nil, .nil => ⟨.nil, .nil⟩
  | _, _, _, _, .cons dk pk dv pv r, .cons hk hr, .cons ik ev hp => by
    obtain ⟨h1, h2⟩ := kv_reads r hr hp
    have e1 := hk.1
    have e2 := hk.2
    dsimp only at e1 e2
    refine ⟨ReadsAll.cons (as := []) (plain_reads dk pk (key_rel ?_)) h1, ReadsAll.cons (as := []) (plain_reads dv pv ?_) h2⟩
    · rw [e1]
      exact ik
    · exact (congrArg (L2.RelV _) ev).mpr e2
mutual
theorem Dq.reads (I : Inv X pins σ H s) : ∀ (d : PyData) (v : V) (u : Value), Dq X.K H v d → RelV v u → ∃ as, Reads s.heap u d as ∧ sysModules ∉ as
  | .none, _, _, h, r => ⟨[], plain_reads h rfl r, List.not_mem_nil⟩
  | .bool _, _, _, h, r => ⟨[], plain_reads h rfl r, List.not_mem_nil⟩
  | .int _, _, _, h, r => ⟨[], plain_reads h rfl r, List.not_mem_nil⟩
  | .str _, _, _, h, r => ⟨[], plain_reads h rfl r, List.not_mem_nil⟩
  | .list ds, _, _, h, r => by
    cases h with
    | lst hs ha hn =>
      cases r
      obtain ⟨its, rv, ⟨o, n, ho, hc, _, hd⟩, _⟩ := I.list hs
      obtain ⟨as, hr, hz⟩ := Dq.readsAll I ds _ its ha rv
      exact ⟨_, Reads.list ho hc hd hr, fun z => (List.mem_cons.mp z).elim (fun e => hn e.symm) hz⟩
  | .tuple ds, _, _, h, r => by
    cases h with
    | tup hs ha =>
      cases r
      obtain ⟨its, rv, ⟨o, ho, hc, n, hd⟩, _⟩ := I.tuple hs
      obtain ⟨as, hr, hz⟩ := Dq.readsAll I ds _ its ha rv
      exact ⟨_, Reads.tuple ho hc hd hr, hz⟩
  | .dict ds, _, _, h, r => by
    cases h with
    | @dic a kvs _ hs ha =>
      cases r
      obtain ⟨_, hsys, vs, kv, o, es, ep, ho, hc, hd, _, hp, _⟩ := I.hok a _ hs
      obtain ⟨h1, h2⟩ := kv_reads (h := s.heap) ha kv hp
      refine ⟨_, Reads.dict ho hc.1 hd h1 h2, fun z => ?_⟩
      rw [List.append_nil] at z
      have z2 := List.mem_singleton.mp z
      rw [← z2] at hsys
      simp at hsys
theorem Dq.readsAll (I : Inv X pins σ H s) : ∀ (ds : List PyData) (vs : List V) (us : List Value), DqAll X.K H vs ds → Vals vs us → ∃ as, ReadsAll s.heap us ds as ∧ sysModules ∉ as
  | [], _, _, h, r => by
    cases h
    cases r
    exact ⟨_, ReadsAll.nil, List.not_mem_nil⟩
  | d :: ds, _, _, h, r => by
    cases h with
    | cons h1 h2 =>
      cases r with
      | cons r1 r2 =>
        obtain ⟨as, q1, z1⟩ := Dq.reads I d _ _ h1 r1
        obtain ⟨bs, q2, z2⟩ := Dq.readsAll I ds _ _ h2 r2
        exact ⟨_, ReadsAll.cons q1 q2, fun z => (List.mem_append.mp z).elim z1 z2⟩
end
end
mutual
theorem Dp.noDict {K : PySem.W.Frag} {H : Hp} : ∀ (d : PyData) (v : V), Dp K H v d → d.hasDict = false
  | .none, _, _ => by simp only [PyData.hasDict]
  | .bool _, _, _ => by simp only [PyData.hasDict]
  | .int _, _, _ => by simp only [PyData.hasDict]
  | .str _, _, _ => by simp only [PyData.hasDict]
  | .list ds, _, h => by
    cases h with
    | lst _ ha =>
      simp only [PyData.hasDict]
      exact DpAll.noDict ds _ ha
  | .tuple ds, _, h => by
    cases h with
    | tup _ ha =>
      simp only [PyData.hasDict]
      exact DpAll.noDict ds _ ha
  | .dict _, _, h => by cases h
theorem DpAll.noDict {K : PySem.W.Frag} {H : Hp} : ∀ (ds : List PyData) (vs : List V), DpAll K H vs ds → PyData.hasDictAll ds = false
  | [], _, _ => by simp only [PyData.hasDictAll]
  | d :: ds, _, h => by
    cases h with
    | cons h1 h2 => simp only [PyData.hasDictAll, Dp.noDict d _ h1, DpAll.noDict ds _ h2, Bool.or_self]
end
/-- what repr asks of data: its numbers are no longer than the line, its text fits, it is not deep -/
def Shows (d : PyData) : Prop := d.showable = true ∧ d.depth ≤ 60 ∧ d.shown.length ≤ sizeLine
def rRepr (K : PySem.W.Frag) : List V → Hp → VK → Prop := fun xs H Q => ∃ (x : V) (d : PyData), xs = [x] ∧ (Dq K H x d ∨ Dp K H x d) ∧ Shows d ∧ Q (.str d.shown) H
section
variable {X : Cx}
theorem shown_bool (b : Bool) : (PyData.bool b).shown = (if b then Str.ofString "True" else Str.ofString "False") := by cases b <;> simp only [PyData.shown] <;> rfl
theorem call_repr (hg : X.A.guards = some []) (hu : X.A.units + 64 < cLine) : CallR X (.builtin "repr") (rRepr X.K) := by
  intro pins s σ H xs us Q I r h
  obtain ⟨x, d, rfl, hd, ⟨hs, hdp, hz⟩, q⟩ := h
  obtain ⟨u, rfl, ru⟩ := vals1 r
  have rd : ∃ as, Reads s.heap u d as ∧ (d.hasDict = true → sysModules ∉ as) := by
    rcases hd with hd | hd
    · obtain ⟨as, z1, z2⟩ := Dq.reads I d x u hd ru
      exact ⟨as, z1, fun _ => z2⟩
    · obtain ⟨as, z1⟩ := Dp.reads I d x u hd ru
      exact ⟨as, z1, PyData.noDict_hsm (Dp.noDict d x hd)⟩
  obtain ⟨as, z1, z2⟩ := rd
  have fin : ∀ (h' : Heap) (tk : Nat) (t : Tok), (∀ b o, s.heap.get? b = some o → h'.get? b = some o) → EP X pins σ Q (.str d.shown t) { s with heap := h', toks := tk } :=
    fun h' tk t hk => ⟨.str d.shown, H, I.kept hk, ⟨t, rfl⟩, q⟩
  have tail : ∀ a, u = .ref a → wpAny (model X.prog X.w) X.A (call (.builtin "repr") [u]) (EP X pins σ Q) X.xe s := by
    intro a e
    subst e
    exact repr_of_reads' z1 hs z2 hg (by omega) (fun _ _ e => e) (fun h' t tk hk => fin h' tk t hk) hz
  cases z1 with
  | none => exact PySem.P.repr_of_none (fin s.heap _ _ fun _ _ e => e)
  | bool b =>
    have e := fin s.heap (s.toks + 1) s.toks fun _ _ e => e
    rw [shown_bool] at e
    exact PySem.P.repr_of_bool e
  | int i t =>
    have hi : i.natAbs.log2 < 1920 := by
      unfold PyData.showable at hs
      exact of_decide_eq_true hs
    exact PySem.P.repr_of_int hi (fin s.heap _ _ fun _ _ e => e)
  | str y t => exact PySem.P.repr_of_str (fin s.heap _ _ fun _ _ e => e) hz
  | list _ _ _ _ => exact tail _ rfl
  | tuple _ _ _ _ => exact tail _ rfl
  | dict _ _ _ _ _ => exact tail _ rfl
end
/-! ### lists that are made: they are not the table of modules -/
section
variable {X : Cx} {es : List Expr} {t : TA} {pos : Pos}
theorem big_of {pins : List (Addr × Obj)} {σ : L2.St} {H : Hp} {s : Shared} (I : Inv X pins σ H s) : sysModules < s.heap.objs.size :=
  Nat.lt_of_lt_of_le (Nat.lt_trans (by decide) I.mod.glob.lt) (Nat.le_trans I.ok.bsz I.sz)
def tLstB (t : TA) : TE := fun σ H Q => t σ H fun xs H1 => xs.length ≤ sizeLine ∧ ∀ p, H1 p = none → p ≠ sysModules → Q (.ref p) (upd H1 p (.lst xs))
theorem pe_lstB (h : PA X es t) : PE X (.List es pos) (tLstB t) := by
  constructor
  intro pins s σ H Q I hq
  refine wpAny_List_spliced (thn (h.run pos pins s σ H _ I hq) ?_)
  rintro us s1 ⟨xs, H1, I1, r, z, q⟩
  have hf := I1.hok.fresh (a := s1.heap.objs.size) (Nat.le_refl _)
  have hl : us.length ≤ sizeLine := by
    rw [← r.length]
    exact z
  exact ⟨hl, .ref s1.heap.objs.size, upd H1 s1.heap.objs.size (.lst xs), I1.laid (t' := s1.toks) (fun b u e => Heap.get?_push_of_some _ e) (Nat.le_refl _) ⟨z, us, 0, r, Heap.get?_push_size _ rfl⟩, rfl, q _ hf (Nat.ne_of_gt (big_of I1))⟩
end
end LG
/-! Several clauses "except X as n" of one name n; isinstance of a caught error that has its own dict. -/
namespace LG
open PySem PySem.Spec PyProof.Rows L2

/-- behind a suite the clause's name is gone -/
def offN (i : Nat) (D : Ends) : Ends := { nx := fun σ H => D.nx (σ.set i none) H, rt := D.rt, bk := fun σ H => D.bk (σ.set i none) H, ct := fun σ H => D.ct (σ.set i none) H }
/-- what the clauses wish of an error of the body, one after the other -/
def wManyAs (K : PySem.W.Frag) (i : Nat) (Wout : WX) (D : Ends) : List (Value × (Addr → Value → Option Addr → TS)) → WX
  | [] => Wout
  | p :: r => fun cls d σ H => ∃ b, PySem.W.exmOne K cls p.1 = some b ∧
      (b = true → ∀ a, H a = none → p.2 a cls d (offN i D) (σ.set i (some (.ref a))) H) ∧ (b = false → wManyAs K i Wout D r cls d σ H)
/-- the clauses as they stand -/
inductive HdsAs (X : Cx) (n : Str) : List ExceptHandler → List (Value × (Addr → Value → Option Addr → TS)) → Prop
  | nil : HdsAs X n [] []
  | cons {x : Str} {c : Value} {ts : Addr → Value → Option Addr → TS} {b₀ : Stmt} {suite : List Stmt} {np pos' : Pos} {hds : List ExceptHandler} {l : List (Value × (Addr → Value → Option Addr → TS))}
      (hc : Names X x c) (hsu : ∀ (a : Addr) (oe : Obj) (cls : Value) (d : Option Addr) (pn : List (Addr × Obj)), Zc cls d oe → (∃ vs, oe.data = .fields vs) → PSs (X.suite a ((a, oe) :: pn)) (b₀ :: suite) (ts a cls d))
      (r : HdsAs X n hds l) : HdsAs X n (.ExceptHandler (some (.Name x np)) (some n) (b₀ :: suite) pos' :: hds) ((c, ts) :: l)
section
variable {X : Cx} {n : Str} {i : Nat} {body : List Stmt} {h₀ : ExceptHandler} {hds : List ExceptHandler} {l : List (Value × (Addr → Value → Option Addr → TS))} {pos : Pos} {tb : WX → TS} {Wout : WX}
/-- the clauses, from the first one on, where the error at a is in flight -/
theorem clauses_as (hs : X.stack = X.env :: X.outer) (hf : X.env.frame = some X.env.locals) (hN : X.N.Nodup) (hi : X.N[i]? = some n) (hln : X.env.kindOf n = some .local) (tk : Takes X Wout)
    {pins pinsF : List (Addr × Obj)} {σ : L2.St} {H : Hp} {D : Ends} {sI s : Shared} {a : Addr} {B h3 : Heap} {cls : Value} {d : Option Addr}
    (J : Inv X pins σ H sI) (nb : ∀ b o, sI.heap.get? b = some o → b ∉ frs X.stack → B.get? b = some o) (fl : HandSPX.FlyingZ B (X.env :: X.outer) a (Zc cls d) h3) (up : sI.heap.UpToSlots h3)
    (na : H a = none) (os : s.os = sI.os) (ag : AllBare s.gens) (ep : pinsF = pins) :
    ∀ {hds : List ExceptHandler} {l : List (Value × (Addr → Value → Option Addr → TS))}, HdsAs X n hds l → wManyAs X.K i Wout D l cls d σ H →
      wpAny (model X.prog X.w) X.A (handleBy (.ref a) X.env hds) (SP X pinsF D) X.xe { s with heap := h3 } := by
  subst ep
  have ok := J.ok
  have J3 : Inv X pinsF σ H { s with heap := h3 } := J.landed nb fl.1 up os ag
  obtain ⟨oe3, vs3, he3, hz3, hd3⟩ := fl.there
  have nfr : a ∉ frs (X.env :: X.outer) := by
    intro hm
    obtain ⟨_, o, eo, hno⟩ := fl.2.2.1.mem hm
    rw [he3] at eo
    cases eo
    exact hno _ hd3
  have nL : a ≠ X.env.locals := fun z => nfr (List.mem_filterMap.mpr ⟨X.env, List.mem_cons_self, by rw [hf, z]⟩)
  have nF : a ∉ X.fs := by
    intro hm
    obtain ⟨e, he, q⟩ := List.mem_filterMap.mp hm
    exact nfr (List.mem_filterMap.mpr ⟨e, List.mem_cons_of_mem _ he, q⟩)
  have S3 := J3.suite he3 hd3 na nL nF
  have ty : PySem.W.Looks (model X.prog X.w) h3 (typeOf (.ref a)) cls := fun A Q E s k q => wpAny_typeOf_ref (k _ _ he3) (by rw [hz3.1]; exact q)
  intro hds l hk
  induction hk with
  | nil =>
    intro w
    refine wpAny_handleBy_nil ?_
    obtain ⟨_, _, _, oe, vs, T, oT, ts', he, _, hd, h1, _⟩ := id fl
    have last : wpAny (model X.prog X.w) X.A (setFlight (.ref a) X.env.frame) (fun _ s4 => wpAny (model X.prog X.w) X.A (throw (.ref a) : Sem Flow) (SP X pinsF D) X.xe s4) X.xe { s with heap := h3 } := by
      rw [hf]
      refine HandSPX.setFlight_upZ fl fun h4 hh4 up4 => wpAny_throw (tk _ _ ?_)
      exact ⟨a, B, sI, pinsF, σ, H, cls, d, rfl, J, nb, up.trans up4, .inr (.inr (by rw [hs]; exact hh4)), na, os, ag, w⟩
    unfold PySem.passOn
    refine wpAny_bind (wpAny_field he hd h1 ?_)
    rw [if_neg (by simp : ¬ ((Value.ref T == Value.none) = true))]
    first
      | exact wpAny_bind (wpAny_pure (wpAny_bind last))
      | exact wpAny_bind last
  | @cons x c ts b₀ suite np pos' rest l2 hc hsu r ih =>
    intro w
    obtain ⟨b, hb1, yes, no⟩ := w
    have nameOk : ∀ {Q : Value → Shared → Prop} {E : Value → Shared → Prop}, Q c { s with heap := h3 } → wpAny (model X.prog X.w) (X.A.mark (some (.ref a))) (eval (.Name x np) X.env) Q E { s with heap := h3 } := by
      intro Q E q
      obtain ⟨hg, hdb, hm | ⟨hm, hv, hnn⟩⟩ := hc
      · exact ld_glob (X := X.suite a ((a, oe3) :: (X.pn ++ pinsF))) S3 hg hm q hdb
      · exact ld_blt (X := X.suite a ((a, oe3) :: (X.pn ++ pinsF))) S3 hg hm hv q hnn hdb
    refine wpAny_handleBy_cons (codeAny_handlers_test (nameOk ((PySem.W.exm_one (M := model X.prog X.w) J3.kIn ty hb1).here ?_))) nofun
    cases b with
    | false => exact ih (no rfl)
    | true =>
      refine codeAny_handlers_suite_as (HandSPX.lands_againZ fl fun h4 fl4 up4 => ?_)
      have J4 : Inv X pinsF σ H { s with heap := h4 } := J.landed nb fl4.1 (up.trans up4) os ag
      obtain ⟨oe4, vs4, he4, hz4, hd4⟩ := fl4.there
      refine store_ok (X := X.suite a ((a, oe4) :: (X.pn ++ pinsF))) (v := .ref a) (J4.suite he4 hd4 na nL nF) hN hi (.inl hln) rfl (fun s5 S5 => ?_) (.inr hln)
      have gone : ∀ {σ6 : L2.St} {H6 : Hp} {s6 : Shared} {Q : Shared → Prop}, Inv (X.suite a ((a, oe4) :: (X.pn ++ pinsF))) [] σ6 H6 s6 → (∀ s7, Inv X pinsF (σ6.set i none) H6 s7 → Q s7) →
          wpAny (model X.prog X.w) X.A (do bindName X.env n .none; unbindBehindTheSuite X.env n pos') (fun _ s7 => Q s7) X.xe s6 := fun S6 hq => gone_ok (S6.unsuite ok) hN hi hln hq
      refine wpAny_mono ((hsu a oe4 cls d (X.pn ++ pinsF) hz4 ⟨_, hd4⟩).run [] s5 _ H _ S5 (yes rfl a na)) (fun f s6 hf6 => ?_) (fun _ _ z => z.elim)
      match f, hf6 with
      | .next, ⟨_, _, S6, q6⟩ => exact gone S6 fun s7 J7 => ⟨_, _, J7, q6⟩
      | .brk, ⟨_, _, S6, q6⟩ => exact gone S6 fun s7 J7 => ⟨_, _, J7, q6⟩
      | .cont, ⟨_, _, S6, q6⟩ => exact gone S6 fun s7 J7 => ⟨_, _, J7, q6⟩
      | .ret u, ⟨_, _, _, S6, r6, q6⟩ => exact gone S6 fun s7 J7 => ⟨_, _, _, J7, r6, q6⟩
/-- try: body / except X as n: .. / except Y as n: .. -/
theorem ps_try_manyAs (hs : X.stack = X.env :: X.outer) (hf : X.env.frame = some X.env.locals) (hN : X.N.Nodup) (hi : X.N[i]? = some n) (hln : X.env.kindOf n = some .local) (tk : Takes X Wout)
    (hb : ∀ (W : WX) (pn : List (Addr × Obj)) (xe : Value → Shared → Prop), Takes (X.tr pn xe) W → PassesOwn (model X.prog X.w) X.A X.env xe → PSs (X.tr pn xe) body (tb W)) (hh : HdsAs X n (h₀ :: hds) l) :
    PS X (.Try body (h₀ :: hds) [] [] pos) (fun D σ H => tb (wManyAs X.K i Wout D l) D σ H) := by
  constructor
  intro pins s σ H D I h
  have ok := I.ok
  have hfr : X.A.frames = some (X.env :: X.outer) := by
    rw [ok.frames, hs]
  refine wpAny_Try_except (wpAny_mono ((hb (wManyAs X.K i Wout D l) (X.pn ++ pins) (fun e s₁ => wpAny (model X.prog X.w) X.A (noteFrame e X.env) (fun _ s₂ => wpAny (model X.prog X.w) X.A (setFlight e none)
    (fun _ s₃ => wpAny (model X.prog X.w) X.A (handleBy e X.env (h₀ :: hds)) (SP X pins D) X.xe s₃) X.xe s₂) X.xe s₁) (fun u s' xx => ?_) PassesOwn.looking).run [] s σ H D (I.toTry _) h) (fun f s1 hsp => ?_) fun _ _ he => he)
  · obtain ⟨a, B, sI, pins', σ', H', cls, d, rfl, J', nb, up, sky, na, os, ag, w⟩ := xx
    have J : Inv X pins σ' H' sI := J'.ofTry ok
    rw [hs] at sky
    show wpAny (model X.prog X.w) X.A (noteFrame (.ref a) X.env) _ _ _
    refine Sky.land Zc.steady hfr hf sky fun h3 fl3 up3 => ?_
    exact clauses_as hs hf hN hi hln tk J nb fl3 (up.trans up3) na os ag rfl hh w
  · match f, hsp with
    | .next, ⟨_, _, J', q⟩ => exact wpAny_execs_nil ⟨_, _, J'.ofTry ok, q⟩
    | .brk, ⟨_, _, J', q⟩ => exact ⟨_, _, J'.ofTry ok, q⟩
    | .cont, ⟨_, _, J', q⟩ => exact ⟨_, _, J'.ofTry ok, q⟩
    | .ret u, ⟨_, _, _, J', r, q⟩ => exact ⟨_, _, _, J'.ofTry ok, r, q⟩
end
/-! ### isinstance(e, c), e an error with an own dict -/
theorem call_isE2 {X : Cx} {a D dd : Addr} {oe : Obj} {pn : List (Addr × Obj)} (C : ExcC X.K D) (hz : Zc (.ref D) (some dd) oe) (hf : ∃ vs, oe.data = .fields vs) :
    CallR (X.suite a ((a, oe) :: pn)) (.builtin "isinstance") (fun xs H Q => (∃ fs, H dd = some (.xd fs)) ∧ rIsE X.K D a xs H Q) := by
  intro pins s σ H xs us Q I r h
  obtain ⟨⟨fs, hdd⟩, c, cv, b, rfl, hcv, e, q⟩ := h
  obtain ⟨u1, u2, rfl, r1, r2⟩ := vals2 r
  obtain rfl : u1 = Value.ref a := r1
  obtain rfl := hcv _ r2
  obtain ⟨hget, _⟩ := I.pin (a, oe) (List.mem_append.mpr (.inl List.mem_cons_self))
  obtain ⟨vs, hv⟩ := hf
  obtain ⟨mA, ⟨od, es, ep, hod, _⟩, _⟩ := I.hok dd _ hdd
  have J : PySem.W.InstAt s.heap a oe D (some od) := by
    obtain ⟨oc, oda, odt, osl⟩ := oe
    obtain ⟨h1, h2⟩ := hz
    dsimp only at h1 h2 hv
    subst h1 h2 hv
    exact ⟨hget, rfl, rfl, hod⟩
  have hcl : (PySem.W.clsIn X.K D).isSome = true := by
    obtain ⟨cd, hc, _⟩ := PySem.W.any_some C.hd
    rw [hc]
    rfl
  have KX : PySem.W.KitX X.K (.ref a) (.ref D) (fun h => PySem.W.InstAt h a oe D (some od)) := PySem.W.kitx_exc hcl C.hg C.hk C.hs C.ha C.hn C.ht C.hm
  exact PySem.W.kia_one KX I.kIn J e (fun z => nomatch z) fun tk => ⟨.bl b, H, I.kept (t' := tk) fun _ _ z => z, rfl, q⟩
end LG
/-! Sets of ints: set(list of ints), a set comprehension of ints. -/
namespace LG
open PySem PySem.Spec PyProof.Rows L2
/-- a set that was just made -/
abbrev oSet (w : World) : Obj := { cls := .type "set", dict := none, data := .set #[] 0 (.fresh 0 0 (!w.params.followText "set-order")) }
section
variable {P : Program} {w : World} {A : Around} {E : Value → Shared → Prop} {s : Shared}
theorem setR_nil {h : Heap} {a : Addr} (ho : h.get? a = some (oSet w)) : SetR w h a (fun _ => false) 0 := (setR_new_at (ns := []) ho).congr fun k => by simp
theorem oSet_in {h : Heap} : (h.push (oSet w)).get? h.objs.size = some (oSet w) := Heap.get?_push_size _ rfl
/-- set.__init__(S, l): the members of the list l, from left to right -/
theorem set_init_list {l : Addr} {items : Array Value} (ns : List Int) (hh : A.handled = none) (hl : s.heap.IsList l items) (hit : IntsAre items.toList ns) (hb : ns.length + 1 < scanBound)
    {R : Result → Shared → Prop} (h : ∀ (h' : Heap) (tk c : Nat), SetR w h' s.heap.objs.size (fun j => decide (j ∈ ns)) c → c ≤ ns.length → (∀ b o, s.heap.get? b = some o → h'.get? b = some o) → R (.ok (.ret .none)) { s with heap := h', toks := tk }) :
    codeAny (model P w) A (.call (.builtin "set.__init__") ⟨[.ref s.heap.objs.size, .ref l], []⟩) R { s with heap := s.heap.push (oSet w) } := by
  have hisz : items.size = ns.length := by
    rw [← Array.length_toList, IntsAre.length hit]
  have hT : Shared.TypeIs { s with heap := s.heap.push (oSet w) } (.ref s.heap.objs.size) "set" := ⟨_, oSet_in, rfl⟩
  have hi : s.heap.objs.size + 1 = (s.heap.push (oSet w)).objs.size := (Heap.size_push _ _).symm
  refine codeAny_call_builtin PySem.F.called_set.init.plain PySem.F.entry_set_init (check_set_init_1 hT ?_)
  obtain ⟨ol, hol, hcl, nl, hdl⟩ := hl
  obtain ⟨ocls, odict, odata, oslots⟩ := ol
  simp only at hcl hdl
  subst hcl
  subst hdl
  have hol' := Heap.get?_push_of_some (oSet w) hol
  have hl1 : (s.heap.push (oSet w)).IsList l items := ⟨_, hol', rfl, nl, rfl⟩
  have f1 := PySem.F.sub_list_set
  have f2 := PySem.F.sub_list_frozenset
  have f3 : (Value.type "list" == Value.type "dict") = false := by decide
  have hlS : l < s.heap.objs.size := Heap.lt_size hol
  unfold Builtin.«set.__init__» noKeywords Builtin.Frozenset.updateFrom
  generalize hPI : pyIter = PI
  wp_walk
  subst hPI
  refine wpAny_pyIter_list hl1 (wpAny_bind (wpAny_runValue ?_))
  have hh3 : A.in1.in1.handled = none := by simp [hh]
  have nI : l ≠ (s.heap.push (oSet w)).objs.size := by
    rw [← hi]
    exact Nat.ne_of_lt (Nat.lt_succ_of_lt hlS)
  have nS : s.heap.objs.size ∉ [(s.heap.push (oSet w)).objs.size, l] := by
    rw [← hi]
    simp only [List.mem_cons, List.not_mem_nil, or_false, not_or]
    exact ⟨Nat.ne_of_lt (Nat.lt_succ_self _), Nat.ne_of_gt hlS⟩
  have each : ∀ (i : Nat) (v : Value), items[i]? = some v → ∃ k t, ns[i]? = some k ∧ v = .int k t := by
    intro i v hv
    have hi : i < ns.length := by
      rw [← hisz]
      exact (Array.getElem?_eq_some_iff.mp hv).1
    obtain ⟨t, e⟩ := IntsAre.int_at hit i v (by rw [Array.getElem?_toList]; exact hv)
    refine ⟨ns[i], t, List.getElem?_eq_getElem hi, e.trans ?_⟩
    rw [List.getD_eq_getElem?_getD, List.getElem?_eq_getElem hi]
    rfl
  refine set_update_ints ((Walks.list hh3 _ l nI items).toS) s.heap.objs.size nS ns hisz hb each (items.size - 0) 0 _ (by omega) (Nat.zero_le _) ?hst ?hS0 ?hR
  case hst => exact ⟨⟨_, Heap.get?_push_size _ rfl, rfl, rfl⟩, hl1.push _⟩
  case hS0 =>
    have z : ((s.heap.push (oSet w)).push { cls := .type "list_iterator", data := .fields #[.ref l, .int 0 0] }).get? s.heap.objs.size = some (oSet w) := Heap.get?_push_of_some _ oSet_in
    exact ⟨0, Nat.le_refl 0, setR_new_at z⟩
  intro s' c hm hc hS
  obtain ⟨h', g', d', tk', os'⟩ := s'
  obtain rfl : g' = s.gens := hm.gens
  obtain rfl : d' = s.drawn := hm.drawn
  obtain rfl : os' = s.os := hm.os
  show wpAny _ _ _ _ _ _
  refine wpAny_pure ?_
  show wpAny _ _ (ret Value.none) _ _ _
  rw [hisz] at hc
  refine wpAny_pure (h h' tk' c hS hc fun b o e => hm.heap b o ?_ (Heap.get?_push_of_some _ (Heap.get?_push_of_some _ e)))
  have hb0 := Heap.lt_size e
  rw [← hi]
  simp only [List.mem_cons, List.not_mem_nil, or_false, not_or]
  exact ⟨Nat.ne_of_lt hb0, Nat.ne_of_lt (Nat.lt_succ_of_lt hb0)⟩
/-- set(l), l a list of ints -/
theorem call_set_list {l : Addr} {items : Array Value} (ns : List Int) {Q : Value → Shared → Prop} (hh : A.handled = none) (hl : s.heap.IsList l items) (hit : IntsAre items.toList ns) (hb : ns.length + 1 < scanBound)
    (h : ∀ (h' : Heap) (tk c : Nat), SetR w h' s.heap.objs.size (fun j => decide (j ∈ ns)) c → c ≤ ns.length → (∀ b o, s.heap.get? b = some o → h'.get? b = some o) → Q (.ref s.heap.objs.size) { s with heap := h', toks := tk }) :
    wpAny (model P w) A (call (.type "set") [.ref l]) Q E s := by
  obtain ⟨c, tl, hmro⟩ := PySem.F.called_set.mro
  have hmade := PySem.F.called_set.made
  have hsub := PySem.F.called_set.sub
  have h1 := PySem.F.called_set.notType
  have h2 := PySem.F.called_set.canCreate
  have hct := PySem.F.typeCall_set_1 (.ref l)
  have hli := PySem.F.called_set.init.lookup
  have hbi := PySem.F.called_set.init.bind (.ref s.heap.objs.size)
  refine wpAny_call (codeAny_of_tree ?_)
  show wpAny _ _ (callAny (.type "set") _) _ _ _
  refine wpAny_pure ⟨Code.quiet_builtin _ (by decide +kernel), codeAny_builtin PySem.F.entry_type_call ?_⟩
  rw [Around.under_plain (weight_type_call_type "set" [.ref l] []) rfl]
  repeat (any_goals (first | assumption | wp_step))
  refine codeAny_mono (code_set_led1 (.ref l) (E := E) (Q₁ := fun obj s₁ => obj = .ref s.heap.objs.size ∧ s₁ = { s with heap := s.heap.push (oSet w) }) ⟨rfl, rfl⟩) fun r s₁ hr => ?_
  match r, hr with
  | .error e, hr => exact hr
  | .ok (.ret obj), ⟨e1, e2⟩ =>
    subst e1 e2
    have hT : Shared.TypeIs { s with heap := s.heap.push (oSet w) } (.ref s.heap.objs.size) "set" := ⟨_, oSet_in, rfl⟩
    repeat (any_goals (first | assumption | wp_step))
    refine codeAny_mono (set_init_list (R := wants (fun r s₂ => r = .none ∧ ∃ h' tk c, s₂ = { s with heap := h', toks := tk } ∧ SetR w h' s.heap.objs.size (fun j => decide (j ∈ ns)) c ∧ c ≤ ns.length ∧
      (∀ b o, s.heap.get? b = some o → h'.get? b = some o)) E) ns (by simp [hh]) hl hit hb fun h' tk c a b e => ⟨rfl, h', tk, c, rfl, a, b, e⟩) fun r₂ s₂ hr₂ => ?_
    match r₂, hr₂ with
    | .ok (.ret r), ⟨e1, h', tk, c', e2, hS', hc', hk'⟩ =>
      subst e1 e2
      repeat (any_goals (first | assumption | wp_step))
      exact h _ _ _ hS' hc' hk'
    | .error e, hr₂ => exact hr₂
end
/-- as a rule: the members are the ints of the list -/
def rSetL (K : PySem.W.Frag) (w : World) : List V → Hp → VK → Prop := fun xs H Q => ∃ (l : Addr) (ns : List Int), xs = [.ref l] ∧ SqL K H l (ns.map V.int) ∧ ns.length ≤ 1000 ∧
  ∀ (p : Addr) (S : Int → Bool) (n : Nat), H p = none → (∀ k, S k = true ↔ k ∈ ns) → n ≤ ns.length → Q (.ref p) (upd H p (SetO w p S n))
theorem cr_setL {X : Cx} (hc : X.calm = true) : CallR X (.type "set") (rSetL X.K X.w) := by
  intro pins s σ H xs us Q I r h
  obtain ⟨l, ns, rfl, hs, hl, q⟩ := h
  obtain ⟨u, rfl, r1⟩ := vals1 r
  obtain rfl : u = Value.ref l := r1
  obtain ⟨its, rv, pl, _⟩ := I.list hs
  refine call_set_list ns (I.ok.hd hc) pl.isList (ints_of_vals rv) (by unfold scanBound; omega) fun h' tk c hS hcl hk => ?_
  exact ⟨.ref s.heap.objs.size, upd H s.heap.objs.size (SetO X.w s.heap.objs.size (fun j => decide (j ∈ ns)) c), I.laid hk (Nat.le_refl _) (setO_new hS), rfl, q _ _ _ (I.hok.fresh (Nat.le_refl _)) (fun k => decide_eq_true_iff) hcl⟩
end LG
/-! A set comprehension whose members are of one kind (ints; keys), and its loops. -/
namespace LG
open PySem PySem.Spec PyProof.Rows L2
/-- a kind of sets: how a member stands as a value, how such a set stands in the heap, and the two facts that are used of it -/
structure SetK1 (κ : Type) [DecidableEq κ] where
  toV : κ → V
  SO : Program → World → Addr → (κ → Bool) → Nat → HO
  fresh : ∀ {P : Program} {w : World} {H : Hp} {h : Heap} {a : Addr}, h.get? a = some (oSet w) → ObjOk P w H h a (SO P w a (fun _ => false) 0)
  add : ∀ {X : Cx} {pins : List (Addr × Obj)} {σ : L2.St} {H : Hp} {s : Shared} {E : Value → Shared → Prop} {D : Addr} {S : κ → Bool} {n : Nat} {y : κ} {u : Value} {Q : Value → Shared → Prop}, Inv X pins σ H s → H D = some (SO X.prog X.w D S n) → n + 1 < scanBound → L2.RelV (toV y) u →
    (∀ s', Inv X pins σ (upd H D (SO X.prog X.w D (fun j => S j || decide (j = y)) (if S y = true then n else n + 1))) s' → Q .none s') → wpAny (model X.prog X.w) X.A (call (.builtin "set.add") [.ref D, u]) Q E s
def setI : SetK1 Int where
  toV := V.int
  SO := fun _ w a S n => SetO w a S n
  fresh := fun h => setO_new (setR_nil h)
  add := fun {X pins σ H s E D S n y u Q} I hD room r h => by
    obtain ⟨t, rfl⟩ := r
    refine setR_add (setO_get I hD) room fun h' sb new => ?_
    have he : ∃ o, h'.get? D = some o := by
      obtain ⟨o, _, _, _, ho, _⟩ := id new
      exact ⟨o, ho⟩
    exact h _ (I.write (e := D) (t' := s.toks + 1) (by rw [hD]; trivial) (.inl rfl) (fun b o hb ho => (sb.2 b hb).trans ho) he (setO_new new))
section
variable {κ : Type} [DecidableEq κ] (k : SetK1 κ)
/-- {elt for target in iter if ..} -/
def tScK (P : Program) (w : World) (wi : TI) (g : TG) (tt : TT) (te : TE) (vs : List Nat) : TE := fun σ H Q => wi σ H fun J H1 => ∀ D, H1 D = none → ∃ W : Nat → Nat → Hp → Prop, (∃ m, W 0 m (upd H1 D (k.SO P w D (fun _ => false) 0))) ∧ ∀ i m H, W i m H →
  (J.stop i H ∧ Q (.ref D) H) ∨ (J.go i H ∧ ∃ Nx : Hp → Prop, (∀ H', Nx H' → ∃ m', m' < m ∧ W (i + 1) m' H') ∧ ∀ x H', J.yld i H x H' → g x (wipe σ vs) H' fun σ2 H2 => wipe σ2 vs = wipe σ vs ∧ tt σ2 H2 fun b H3 =>
    if b = true then te σ2 H3 fun y H4 => ∃ (c : κ) (S : κ → Bool) (n : Nat), y = k.toV c ∧ H4 D = some (k.SO P w D S n) ∧ n + 1 < scanBound ∧ Nx (upd H4 D (k.SO P w D (fun j => S j || decide (j = c)) (if S c = true then n else n + 1))) else Nx H3)
variable {X : Cx}
theorem pe_scK {elt tg iter : Expr} {ifs : List Expr} {scope : Scope} {own : List (PySem.Str × Nat)} {pos : Pos} {wi : TI} {g : TG} {tt : TT} {te : TE} (hc : X.calm = true) (hN : X.N.Nodup) (hi : PI X tg iter wi) (ok : BlkOk X.N X.env.scope scope own)
    (hg : ∀ (s : Shared) (H : Hp) (C : Addr) (cl : List (PySem.Str × Addr)) (fp : List Addr), PG (X.blk s H scope (compEnvC scope cl C X.env) fp) tg g)
    (ht : ∀ (s : Shared) (H : Hp) (C : Addr) (cl : List (PySem.Str × Addr)) (fp : List Addr), PTs (X.blk s H scope (compEnvC scope cl C X.env) fp) ifs tt)
    (he : ∀ (s : Shared) (H : Hp) (C : Addr) (cl : List (PySem.Str × Addr)) (fp : List Addr), PE (X.blk s H scope (compEnvC scope cl C X.env) fp) elt te)
    (hs : ∀ x, foldedSetIterable iter X.env x = pure x := by intro _; rfl) :
    PE X (.SetComp elt [⟨tg, iter, ifs, 0⟩] scope pos) (tScK k X.prog X.w wi g tt te (own.map (·.2))) := by
  constructor
  intro pins s σ H Q I h
  rw [PpSet.eval_SetComp]
  have hfree : ∀ y ∈ scope.names, y.2 = .free → ∃ c, X.env.cells.lookup y.1 = some c := fun y hy e => (ok.free y hy e).elim (fun z => I.ok.has _ (.inl z)) fun z => I.ok.has _ (.inr z)
  refine wpAny_comprehension_free rfl hs (closure_ok hfree) ok.kind (fun y hy e => by rw [ok.uniq y hy, e]) (thn (hi.run pins s σ H _ I h) fun xv s1 hx => thn hx fun itv s2 h2 => ?_)
  obtain ⟨it, fp, tn, J, H2, e, I2, T, st2, f2, q⟩ := h2
  subst e
  refine PpSet.newSet_ok (newEnv_comp ?_)
  have szD : H2 s2.heap.objs.size = none := I2.hok.fresh (Nat.le_refl _)
  generalize hD : s2.heap.objs.size = D at szD
  obtain ⟨W, ⟨m0, w0⟩, turn⟩ := q D szD
  generalize hO : k.SO X.prog X.w D (fun _ => false) 0 = o0 at w0
  generalize hs3 : ({ s2 with heap := s2.heap.push (oSet X.w) } : Shared) = s3
  have h3 : s3.heap = s2.heap.push (oSet X.w) := by
    rw [← hs3]
  have I3 : Inv X pins σ (upd H2 D o0) s3 := by
    rw [← hs3, ← hO]
    refine I2.laid (t' := s2.toks) (fun b o e => Heap.get?_push_of_some _ e) (Nat.le_of_eq hD) (k.fresh ?_)
    rw [← hD]
    exact oSet_in
  have sz : ∀ b ∈ fp, b < s2.heap.objs.size := fun b hb => by
    obtain ⟨o, e, _⟩ := T.obj _ _ st2 b hb
    exact Heap.lt_size e
  have f3 : ∀ b ∈ fp, FpOk X pins (upd H2 D o0) b ∧ b < s3.heap.objs.size := fun b hb => by
    have hlt := sz b hb
    refine ⟨⟨?_, (f2 b hb).2⟩, ?_⟩
    · rw [upd_ne (by rw [← hD]; exact Nat.ne_of_lt hlt)]
      exact (f2 b hb).1
    · rw [h3, Heap.size_push]
      exact Nat.lt_succ_of_lt hlt
  have st3 : tn 0 s3.heap := T.keep _ _ _ st2 fun b _ o e => by
    rw [h3]
    exact Heap.get?_push_of_some _ e
  have I4 := block_start I3 ok hN f3
  have pg := hg s3 (upd H2 D o0) s3.heap.objs.size (cellsFrom (s3.heap.objs.size + 1) scope.names (cloFrom X.env.cells scope.names [])) fp
  have pt := ht s3 (upd H2 D o0) s3.heap.objs.size (cellsFrom (s3.heap.objs.size + 1) scope.names (cloFrom X.env.cells scope.names [])) fp
  have pe := he s3 (upd H2 D o0) s3.heap.objs.size (cellsFrom (s3.heap.objs.size + 1) scope.names (cloFrom X.env.cells scope.names [])) fp
  show codeAny _ _ (.compStart (.SetComp elt [⟨tg, iter, ifs, 0⟩] scope pos) 0 (.ref it) (.ref D) (compEnvC scope (cellsFrom (s3.heap.objs.size + 1) scope.names (cloFrom X.env.cells scope.names [])) s3.heap.objs.size X.env)) _ { s3 with heap := pushCells (s3.heap.push { cls := .type "dict", data := .dict #[] }) scope.names }
  generalize hce : compEnvC scope (cellsFrom (s3.heap.objs.size + 1) scope.names (cloFrom X.env.cells scope.names [])) s3.heap.objs.size X.env = ce at I4 pg pt pe ⊢
  have cL : ce.locals = s3.heap.objs.size := by
    subst hce
    rfl
  have nfp : ∀ b ∈ fp, (upd H2 D o0) b = none := fun b hb => (f3 b hb).1.1
  generalize hH3 : upd H2 D o0 = H3 at I3 I4 pg pt pe w0 nfp f3
  generalize hs4 : ({ s3 with heap := pushCells (s3.heap.push { cls := .type "dict", data := .dict #[] }) scope.names } : Shared) = s4 at I4 ⊢
  have st4 : tn 0 s4.heap := T.keep _ _ _ st3 fun b _ o e => by
    rw [← hs4]
    exact pushCells_keeps _ _ _ _ (Heap.get?_push_of_some _ e)
  have stat : ∀ {σ' : L2.St} {H' : Hp} {s' : Shared}, Inv (X.blk s3 H3 scope ce fp) [] σ' H' s' → (∀ b ∈ fp, H' b = none) → ∀ b ∈ fp, FpOk (X.blk s3 H3 scope ce fp) [] H' b := fun I' hn b hb =>
    ⟨hn b hb, (I'.ok.exf b hb).1, I'.ok.exfs b hb, .inl hb, fun x c e => (I'.ok.exf b hb).2 x c e, fun p hp => absurd (show p ∈ ([] : List (Addr × Obj)) ++ [] from hp) (by simp)⟩
  refine (fun loop => PpSet.codeAny_compStart_set loop (T.self X.A 0 _ _ _ st4 loop)) ?_
  refine PpSet.compLoopS_any (fun n s' => ∃ i H', Inv (X.blk s3 H3 scope ce fp) [] (wipe σ (own.map (·.2))) H' s' ∧ tn i s'.heap ∧ (∀ b ∈ fp, H' b = none) ∧ W i n H') ?_ m0 ⟨0, H3, I4, st4, nfp, w0⟩
  rintro n s5 ⟨i, H5, I5, st5, n5, w5⟩
  rcases turn i n H5 w5 with ⟨stop, qq⟩ | ⟨go, Nx, hNx, step⟩
  · refine thnF (T.done (X.blk s3 H3 scope ce fp) rfl rfl rfl hc i [] s5 _ H5 (fun _ _ => False) I5 (stat I5 n5) st5 stop) fun r s6 ⟨hr, I6⟩ => ?_
    subst hr
    have I7 : Inv X pins σ H5 s6 := I3.call' (ch := fp) I6.os I6.base I6.hok I6.bare fun b hb => ⟨(f3 b hb).1.2.2.2.1, (f3 b hb).1.2.1, (f3 b hb).1.2.2.2.2.1, (f3 b hb).1.2.2.2.2.2⟩
    have nC : H5 s3.heap.objs.size = none := by
      rw [← cL]
      exact I6.free
    obtain ⟨m, hn, _⟩ := I6.loc
    have hn' : s6.heap.Ns s3.heap.objs.size m := by
      rw [← cL]
      exact hn
    obtain ⟨f0, f1, _, f3', f4, f5⟩ := I3.fpOk (Nat.le_refl _) nC
    refine ⟨m, hn', fun h'' sb => ?_⟩
    exact ⟨.ref D, H5, I7.turned (t' := s6.toks) (fun b o hb e => (sb.2 b hb).trans e) f0 f1 f3' f4 f5, rfl, qq⟩
  · refine thnF (T.item (X.blk s3 H3 scope ce fp) rfl rfl rfl hc i [] s5 _ H5 (fun _ _ => False) I5 (stat I5 n5) st5 go) fun r s6 ⟨u, hr, h6⟩ => ?_
    subst hr
    refine thnF h6 fun _ s7 ⟨x, H7, I7, r7, y7, st7, n7⟩ => ?_
    have I7' := I7.pinned (stat I7 n7) (T.obj _ _ st7)
    refine thnF (pg.run _ s7 _ H7 x u _ I7' r7 (step x H7 y7)) fun _ s8 ⟨σ8, H8, I8, hw8, q8⟩ => ?_
    refine thnF (pt.run _ s8 σ8 H8 _ I8 q8) fun b s9 ⟨H9, I9, q9⟩ => ?_
    have fin : ∀ {s' : Shared} {H' : Hp}, Inv (X.blk s3 H3 scope ce fp) ([] ++ pinsAt fp s7.heap) σ8 H' s' → Nx H' → ∃ m, m < n ∧ ∃ i H', Inv (X.blk s3 H3 scope ce fp) [] (wipe σ (own.map (·.2))) H' s' ∧ tn i s'.heap ∧ (∀ b ∈ fp, H' b = none) ∧ W i m H' := by
      intro s' H' I' nx
      obtain ⟨m', hm, w'⟩ := hNx H' nx
      have pin' : ∀ b ∈ fp, ∀ o, s7.heap.get? b = some o → s'.heap.get? b = some o ∧ H' b = none := fun b hb o e =>
        let z := I'.pin (b, o) (List.mem_append_right _ (List.mem_append_right _ (mem_pinsAt hb e)))
        ⟨z.1, z.2.1⟩
      have hl : (wipe σ (own.map (·.2))).length = σ8.length := by
        rw [← hw8, wipe_length]
      refine ⟨m', hm, i + 1, H', (I'.unpinned (pins := [])).weak hl (fun j v e => ?_), T.keep _ _ _ st7 fun b hb o e => (pin' b hb o e).1, fun b hb => ?_, w'⟩
      · rw [← hw8] at e
        exact (wipe_some e).1
      · obtain ⟨o, e, _⟩ := T.obj _ _ st7 b hb
        exact (pin' b hb o e).2
    cases b with
    | false =>
      simp only [Bool.false_eq_true, if_false] at q9 ⊢
      exact fin I9 q9
    | true =>
      simp only [if_true] at q9 ⊢
      refine thnF (pe.run _ s9 σ8 H9 _ I9 q9) fun z s10 ⟨yv, H10, I10, r10, cb, S0, n0, ey, hD10, hz10, nx⟩ => ?_
      subst ey
      exact k.add (X := X.blk s3 H3 scope ce fp) I10 hD10 hz10 r10 fun s11 I11 => fin I11 nx
/-- over a list that the block leaves as it is -/
theorem sc_list {P : Program} {w : World} {K : PySem.W.Frag} {a : Addr} {xs : List V} {g : TG} {tt : TT} {te : TE} {vs : List Nat} {σ : L2.St} {H1 : Hp} {D : Addr} {Qd : Hp → Prop} (Pv : Nat → Hp → Prop) (h0 : Pv 0 (upd H1 D (k.SO P w D (fun _ => false) 0)))
    (hl : ∀ i H, i ≤ xs.length → Pv i H → SqL K H a xs)
    (hs : ∀ i x H, xs[i]? = some x → Pv i H → g x (wipe σ vs) H fun σ2 H2 => wipe σ2 vs = wipe σ vs ∧ tt σ2 H2 fun b H3 =>
      if b = true then te σ2 H3 fun y H4 => ∃ (c : κ) (S : κ → Bool) (n : Nat), y = k.toV c ∧ H4 D = some (k.SO P w D S n) ∧ n + 1 < scanBound ∧ Pv (i + 1) (upd H4 D (k.SO P w D (fun j => S j || decide (j = c)) (if S c = true then n else n + 1))) else Pv (i + 1) H3) (hd : ∀ H, Pv xs.length H → Qd H) :
    ∃ W : Nat → Nat → Hp → Prop, (∃ m, W 0 m (upd H1 D (k.SO P w D (fun _ => false) 0))) ∧ ∀ i m H, W i m H →
      ((Itl K a).stop i H ∧ Qd H) ∨ ((Itl K a).go i H ∧ ∃ Nx : Hp → Prop, (∀ H', Nx H' → ∃ m', m' < m ∧ W (i + 1) m' H') ∧ ∀ x H', (Itl K a).yld i H x H' → g x (wipe σ vs) H' fun σ2 H2 => wipe σ2 vs = wipe σ vs ∧ tt σ2 H2 fun b H3 =>
        if b = true then te σ2 H3 fun y H4 => ∃ (c : κ) (S : κ → Bool) (n : Nat), y = k.toV c ∧ H4 D = some (k.SO P w D S n) ∧ n + 1 < scanBound ∧ Nx (upd H4 D (k.SO P w D (fun j => S j || decide (j = c)) (if S c = true then n else n + 1))) else Nx H3) := by
  refine ⟨fun i m H => m = xs.length - i ∧ i ≤ xs.length ∧ Pv i H, ⟨xs.length, by simp, Nat.zero_le _, h0⟩, ?_⟩
  rintro i m H ⟨rfl, hi, p⟩
  have q := hl i H hi p
  rcases Nat.lt_or_ge i xs.length with hlt | hge
  · refine .inr ⟨⟨xs, xs[i], q, by simp [hlt]⟩, Pv (i + 1), fun H' p' => ⟨xs.length - (i + 1), by omega, rfl, hlt, p'⟩, ?_⟩
    rintro x H' ⟨e, y⟩
    subst e
    exact hs i x _ (y xs q) p
  · obtain rfl : i = xs.length := by omega
    exact .inl ⟨⟨xs, q, Nat.le_refl _⟩, hd H p⟩
/-- over a tuple that the block leaves as it is -/
theorem sc_tupK {P : Program} {w : World} {K : PySem.W.Frag} {a : Addr} {xs : List V} {g : TG} {tt : TT} {te : TE} {vs : List Nat} {σ : L2.St} {H1 : Hp} {D : Addr} {Qd : Hp → Prop} (Pv : Nat → Hp → Prop) (h0 : Pv 0 (upd H1 D (k.SO P w D (fun _ => false) 0)))
    (hl : ∀ i H, i ≤ xs.length → Pv i H → SqT K H a xs)
    (hs : ∀ i x H, xs[i]? = some x → Pv i H → g x (wipe σ vs) H fun σ2 H2 => wipe σ2 vs = wipe σ vs ∧ tt σ2 H2 fun b H3 =>
      if b = true then te σ2 H3 fun y H4 => ∃ (c : κ) (S : κ → Bool) (n : Nat), y = k.toV c ∧ H4 D = some (k.SO P w D S n) ∧ n + 1 < scanBound ∧ Pv (i + 1) (upd H4 D (k.SO P w D (fun j => S j || decide (j = c)) (if S c = true then n else n + 1))) else Pv (i + 1) H3) (hd : ∀ H, Pv xs.length H → Qd H) :
    ∃ W : Nat → Nat → Hp → Prop, (∃ m, W 0 m (upd H1 D (k.SO P w D (fun _ => false) 0))) ∧ ∀ i m H, W i m H →
      ((Itt K a).stop i H ∧ Qd H) ∨ ((Itt K a).go i H ∧ ∃ Nx : Hp → Prop, (∀ H', Nx H' → ∃ m', m' < m ∧ W (i + 1) m' H') ∧ ∀ x H', (Itt K a).yld i H x H' → g x (wipe σ vs) H' fun σ2 H2 => wipe σ2 vs = wipe σ vs ∧ tt σ2 H2 fun b H3 =>
        if b = true then te σ2 H3 fun y H4 => ∃ (c : κ) (S : κ → Bool) (n : Nat), y = k.toV c ∧ H4 D = some (k.SO P w D S n) ∧ n + 1 < scanBound ∧ Nx (upd H4 D (k.SO P w D (fun j => S j || decide (j = c)) (if S c = true then n else n + 1))) else Nx H3) := by
  refine ⟨fun i m H => m = xs.length - i ∧ i ≤ xs.length ∧ Pv i H, ⟨xs.length, by simp, Nat.zero_le _, h0⟩, ?_⟩
  rintro i m H ⟨rfl, hi, p⟩
  have q := hl i H hi p
  rcases Nat.lt_or_ge i xs.length with hlt | hge
  · refine .inr ⟨⟨xs, xs[i], q, by simp [hlt]⟩, Pv (i + 1), fun H' p' => ⟨xs.length - (i + 1), by omega, rfl, hlt, p'⟩, ?_⟩
    rintro x H' ⟨e, y⟩
    subst e
    exact hs i x _ (y xs q) p
  · obtain rfl : i = xs.length := by omega
    exact .inl ⟨⟨xs, q, Nat.le_refl _⟩, hd H p⟩
end
end LG
/-! Calls by keywords alone, defs with a star, the law's entry where no guard is on the stack. -/
namespace LG
open PySem PySem.Spec PyProof.Rows L2

/-! ### a promise for any way to bind -/
def FnB (P : Program) (w : World) (K : PySem.W.Frag) (mg : Str → Option Value) (base : Heap) (k : Nat) (f : Addr) (fd : FuncData) (ps : List Str) (sp : Sp) : Prop :=
  ∀ (A : Around) (outer : List Env) (s : Shared) (H : Hp) (args : Args) (us : List Value) (vs : List V) (Q : VK) (E : XK),
    A.guards = some [] → Room k A → Env0 P w K mg base A outer s H → BindsTo s fd args (ps.zip us) → Vals vs us → vs.length = ps.length → sp vs H Q E →
    codeAny (model P w) A (.call (.ref f) args) (CR (L2.CX P w) outer P w H s Q E) s
section
variable {P : Program} {w : World} {K : PySem.W.Frag} {mg : Str → Option Value} {base : Heap} {k : Nat} {f : Addr} {sp : Sp} {x qual : Str} {st : Stmt} {fd : FuncData} {N ps : List Str}
theorem FnB.of (F : Fun K x qual st f fd) (S : FnScope N ps (defScope st))
    (body : ∀ (cdv : Value) (A : Around) (outer : List Env) (s : Shared) (H : Hp) (vs : List V) (Q : VK) (E : XK), A.guards = some [] →
      Room k (A.deeper (envOfC qual (defScope st) s.heap.objs.size f cdv)) → sp vs H Q E →
      ∃ t, PSs (cxOf (L2.CX P w) P w K mg base N qual (defScope st) f cdv A outer s H E) (defBody st) t ∧ t { nx := fun _ H' => Q .non H', rt := Q } (start N vs) H) :
    FnB P w K mg base (k + 1) f fd ps sp := by
  intro A outer s H args us vs Q E hg hr e0 hb rv hl hsp
  obtain ⟨oc, od, kV, doc, pm, an, cdv, ct, osl, rfl, lk, hcd⟩ := F.ex
  exact LamX.run_ofS lk hcd S hr e0 hb rv hl fun hr' => body cdv A outer s H vs Q E hg hr' hsp
theorem FnB.fn (F : FnB P w K mg base k f fd ps sp) (hb : Binds K fd ps []) (len : ∀ vs H Q E, sp vs H Q E → vs.length = ps.length) : Fn P w K mg base k f sp := by
  intro A outer s H us vs Q E hg hr e0 rv hsp
  have KX : K.In s.heap := e0.mod.kin.keeps fun b o e => (e0.bs b o e).1
  have hl := len _ _ _ _ hsp
  have hb' := hb s us KX (by rw [List.append_nil, ← rv.length]; exact hl)
  rw [List.append_nil] at hb'
  exact F A outer s H ⟨us, []⟩ us vs Q E hg hr e0 hb' rv hl hsp
/-- def f(*v): the arguments are a new tuple -/
theorem Fn.ofStar {pv : Str} (F : Fun K x qual st f fd) (S : FnScope N [pv] (defScope st)) (hb : ∀ us : List Value, bindArgs fd ⟨us, []⟩ = (newTuple us >>= fun t => pure [(pv, t)]))
    (body : ∀ (cdv : Value) (A : Around) (outer : List Env) (s : Shared) (H : Hp) (vs : List V) (Q : VK) (E : XK), A.guards = some [] →
      Room k (A.deeper (envOfC qual (defScope st) s.heap.objs.size f cdv)) → sp vs H Q E →
      ∃ t, PSs (cxOf (L2.CX P w) P w K mg base N qual (defScope st) f cdv A outer s H E) (defBody st) t ∧ t { nx := fun _ H' => Q .non H', rt := Q } (start N vs) H) :
    Fn P w K mg base (k + 1) f (fun vs H Q E => vs.length ≤ sizeLine ∧ ∀ p, H p = none → sp [V.ref p] (upd H p (.tup vs)) Q E) := by
  intro A outer s H us vs Q E hg hr e0 rv hsp
  obtain ⟨hz, hq⟩ := hsp
  obtain ⟨oc, od, kV, doc, pm, an, cdv, ct, osl, rfl, lk, hcd⟩ := F.ex
  have hn : H s.heap.objs.size = none := e0.hok.fresh (Nat.le_refl _)
  have hl : us.length ≤ sizeLine := by
    rw [← rv.length]
    exact hz
  refine StX.run_bnd lk hcd S hr e0 (G := fun xs H2 => ∃ p, H p = none ∧ xs = [V.ref p] ∧ H2 = upd H p (.tup vs)) (fun A' Ex Q' h => ?_) fun s2 H2 xs ⟨p, hp, ex, eH⟩ hr' => ?_
  · rw [hb us]
    refine wpAny_bind (wpAny_newTuple (wpAny_pure ?_) hl)
    have new : ObjOk P w (upd H s.heap.objs.size (.tup vs)) (s.heap.push ({ cls := .type "tuple", data := .seq us.toArray } : Obj)) s.heap.objs.size (.tup vs) := ⟨hz, us, rv, ⟨_, Heap.get?_push_size _ rfl, rfl, _, rfl⟩⟩
    have un := StX.un_laid (fs := frs outer) (s := s) (o := ({ cls := .type "tuple", data := .seq us.toArray } : Obj)) (u := .tup vs) hn
    exact h _ _ [V.ref s.heap.objs.size] [Value.ref s.heap.objs.size] (StX.env0_laid e0 new) un rfl (fun e s' => StX.cxUp outer s H _ _ E e s' un (fun b o q => Heap.get?_push_of_some _ q) rfl) (.cons rfl .nil) rfl ⟨_, hn, rfl, rfl⟩
  · subst ex eH
    exact body cdv A outer s2 _ _ Q E hg hr' (hq p hp)
end
section
variable {X : Cx} {k : Nat} {f : Addr} {fd : FuncData} {ps ks : List Str} {sp : Sp} {E : XK} {x : Str} {p pos : Pos} {kws : List Keyword} {tk : TA}
/-- f(k = v, ..): each parameter by its name, g puts the values in the parameters' order -/
theorem pe_fnK0 {g : {α : Type} → List α → List α} (F : FnB X.prog X.w X.K X.mg X.base k f fd ps sp) (g0 : X.A.guards = some []) (hr : Room k X.A) (hk : PySem.W.keepIn X.K (.ref f) = true) (hm : X.mg x = some (.ref f)) (hg : Gl X x) (hx : Passes (L2.CX X.prog X.w) X E)
    (hb : ∀ ws : List Value, ws.length = ks.length → bindArgs fd ⟨[], ks.zip ws⟩ = pure (ps.zip (g ws))) (hv : ∀ {vs : List V} {us : List Value}, Vals vs us → vs.length = ks.length → Vals (g vs) (g us) ∧ (g vs).length = ps.length) (hkw : PK X kws tk)
    (hall : (backToKw pos (keywordEach kws X.env)).all (·.1.isSome) = true := by rfl) (hks : (backToKw pos (keywordEach kws X.env)).filterMap (·.1) = ks := by rfl) (hdb : (x == ("__debug__" : Str)) = false := by decide)
    (hpl : ((backTo pos (starEach [] X.env)).any (·.1) || (backToKw pos (keywordEach kws X.env)).any (·.1.isNone)) = false := by rfl) :
    PE X (.Call (.Name x p) [] kws pos) (fun σ H Q => tk σ H fun zs H1 => zs.length = ks.length ∧ sp (g zs) H1 Q E) := by
  constructor
  intro pins s σ H Q I h
  refine wpAny_Call_Name_kw (ld_glob I hg hm (PySem.W.callWith_KW0 (h₀ := X.base) I.ok.mod.kin hk hall (thn (hkw.run pos pins s σ H _ I h) ?_) hpl) hdb)
  rintro ws s2 ⟨zs, H2, I2, rz, hl, q⟩
  refine ⟨I2.kIn, ?_⟩
  rw [hks]
  obtain ⟨rv, hl2⟩ := hv rz hl
  refine wpAny_call (codeAny_mono (F X.A X.stack s2 H2 ⟨[], ks.zip ws⟩ (g ws) (g zs) Q E g0 hr I2.env0 (.of_eq (hb ws (by rw [← rz.length]; exact hl))) rv hl2 q) fun res s' hq => ?_)
  match res, hq with
  | .error e, hq => exact hx pins σ H2 s2 e s' I2 hq
  | .ok (.ret u), hq => exact I2.after hq
  | .ok .next, hq => exact hq.elim
  | .ok .brk, hq => exact hq.elim
  | .ok .cont, hq => exact hq.elim
end

/-! ### the law's entry -/
/-- nothing is tracked but the script and the tables of code objects cs -/
theorem law_enter {P : Program} {w : World} {K : PySem.W.Frag} {mg mb : Str → Option Value} {k : Nat} {fa a : Addr} {cs : List (Addr × Addr)} {sp : Sp} {s₁ : Shared} {vs : List Value} {ns : List Int}
    (KX : K.In s₁.heap) (hns : s₁.heap.Ns mainGlobals mg) (hb : s₁.heap.Ns builtinsNs mb) (hbb : ∀ x : Str, x ≠ "__name__" → mb x = bootBuiltins x) (hlim : s₁.heap.NoLimit) (hg : s₁.gens = #[])
    (hT : ∀ p ∈ cs, s₁.heap.get? p.2 = some { cls := .none, data := .fields #[] }) (nT : ∀ p ∈ cs, K.lookup p.2 = none) (C : ∀ p ∈ cs, PySem.W.CodeHd s₁.heap p.1 p.2)
    (hbm : ∃ (bm : Addr) (ob : Obj), mg "__builtins__" = some (.ref bm) ∧ bm ≠ builtinsNs ∧ s₁.heap.get? bm = some ob ∧ ob.cls = .type "module" ∧ ob.dict = some builtinsNs ∧ ob.data = .plain)
    (ha : s₁.heap.get? a = some { cls := .type "list", data := .seq vs.toArray }) (hi : IntsAre vs ns) (hl : ns.length ≤ sizeLine) (hr : Room k callerA)
    (F : ∀ base : Heap, K.In base → base.Ns mainGlobals mg → (∀ p ∈ cs, LamX.TabB base mg p.1 p.2) → Fn P w K mg base k fa sp)
    (hsp : ∀ H : Hp, (∀ p ∈ cs, H p.2 = some (.tbl #[])) → SqL K H a (ns.map V.int) → sp [.ref a] H (fun v _ => v = .bl true) fun _ _ _ => False) :
    codeAny (model P w) callerA (.call (.ref fa) ⟨[.ref a], []⟩) (fun r s' => r = .ok (.ret (.bool true)) ∧ OldK s₁.heap s'.heap ∧ s'.os = s₁.os ∧ AllBare s'.gens) s₁ := by
  have isT : ∀ b : Addr, b ∈ cs.map (·.2) → s₁.heap.get? b = some { cls := .none, data := .fields #[] } := by
    intro b hb
    obtain ⟨p, hp, e⟩ := List.mem_map.mp hb
    exact e ▸ hT p hp
  have memT : ∀ p ∈ cs, p.2 ∈ cs.map (·.2) := fun p hp => List.mem_map.mpr ⟨p, hp, rfl⟩
  have aT : a ∉ cs.map (·.2) := by
    intro z
    have q := isT a z
    rw [ha] at q
    cases Option.some.inj q
  -- the abstract heap
  let scr : Option HO := if (K.lookup a).isSome then none else some (.frz { cls := .type "list", data := .seq vs.toArray } (.lst (ns.map V.int)))
  let H : Hp := fun b => if b ∈ cs.map (·.2) then some (.tbl #[]) else if b = a then scr else none
  have H_t : ∀ b, b ∈ cs.map (·.2) → H b = some (.tbl #[]) := fun b hb => if_pos hb
  have H_a : H a = scr := (if_neg aT).trans (if_pos rfl)
  have H_o : ∀ b, b ∉ cs.map (·.2) → b ≠ a → H b = none := fun b h1 h2 => (if_neg h1).trans (if_neg h2)
  have scr_cases : (scr = none ∧ ∃ o, K.lookup a = some o) ∨ (scr = some (.frz { cls := .type "list", data := .seq vs.toArray } (.lst (ns.map V.int))) ∧ K.lookup a = none) := by
    cases e : K.lookup a with
    | some o => exact .inl ⟨if_pos (by rw [e]; rfl), o, rfl⟩
    | none => exact .inr ⟨if_neg (by rw [e]; exact Bool.false_ne_true), rfl⟩
  have H_is : ∀ b, H b ≠ none → b ∈ cs.map (·.2) ∨ (b = a ∧ scr ≠ none) := by
    intro b hb
    by_cases h1 : b ∈ cs.map (·.2)
    · exact .inl h1
    · by_cases h2 : b = a
      · subst h2
        exact .inr ⟨rfl, fun z => hb (H_a.trans z)⟩
      · exact absurd (H_o b h1 h2) hb
  have lenV := hi.length
  have okA : ∀ (H' : Hp), ObjOk P w H' s₁.heap a (.frz { cls := .type "list", data := .seq vs.toArray } (.lst (ns.map V.int))) := fun H' => ⟨ha, by rw [List.length_map]; exact hl, vs, _, vals_ints hi, ha⟩
  have hok : HOk P w H s₁.heap := by
    intro b u e
    rcases H_is b (by rw [e]; exact Option.some_ne_none u) with hb | ⟨hb, hs⟩
    · have z := (H_t b hb).symm.trans e
      cases z
      exact isT b hb
    · subst hb
      rcases scr_cases with ⟨z, _⟩ | ⟨z, _⟩
      · exact absurd z hs
      · have z' := (H_a.trans z).symm.trans e
        cases z'
        exact okA H
  have seqA : SqL K H a (ns.map V.int) := by
    rcases scr_cases with ⟨_, o, hk⟩ | ⟨z, _⟩
    · have e := KX a o hk
      rw [ha] at e
      cases e
      exact .inr ⟨_, vs.toArray, _, hk, rfl, rfl, rfl, by rw [List.size_toArray, lenV]; exact hl, vals_ints hi⟩
    · exact .inl (.inr ⟨_, H_a.trans z⟩)
  -- what is neither a list nor a table is not tracked
  have off : ∀ {b : Addr} {o : Obj}, s₁.heap.get? b = some o → (∀ vs n, o.data ≠ .seq vs n) → o.data ≠ .fields #[] → H b = none := by
    intro b o e h1 h2
    refine H_o b (fun z => h2 ?_) fun z => ?_
    · have q := (isT b z).symm.trans e
      cases q
      rfl
    · subst z
      have q := ha.symm.trans e
      cases q
      exact h1 _ _ rfl
  have base_of : ∀ {b : Addr} {o : Obj}, s₁.heap.get? b = some o → H b = none → (hidT s₁.heap H).get? b = some o := fun e n => hidT_get e n
  have offD : ∀ {b : Addr} {o : Obj} {es : Array DictEntry} {ep : Nat}, s₁.heap.get? b = some o → o.data = .dict es ep → H b = none := fun e d => off e (fun vs n z => by rw [d] at z; cases z) fun z => by rw [d] at z; cases z
  have nsK : ∀ {b : Addr} {m : Str → Option Value}, s₁.heap.Ns b m → (hidT s₁.heap H).Ns b m := fun ⟨o, es, ep, e, d, r⟩ => ⟨o, es, ep, base_of e (offD e d), d, r⟩
  have hKb : K.In (hidT s₁.heap H) := by
    intro b o e
    refine base_of (KX b o e) ?_
    cases q : H b with
    | none => rfl
    | some u =>
      rcases H_is b (by rw [q]; exact Option.some_ne_none u) with hb | ⟨hb, hs⟩
      · obtain ⟨p, hp, ep⟩ := List.mem_map.mp hb
        rw [← ep, nT p hp] at e
        cases e
      · subst hb
        rcases scr_cases with ⟨z, _⟩ | ⟨_, z⟩
        · exact absurd z hs
        · rw [z] at e
          cases e
  have hM : Mod K mg (hidT s₁.heap H) := ⟨hKb, nsK hns, ⟨mb, nsK hb, hbb⟩, let ⟨mc, h1, h2⟩ := hlim; ⟨mc, nsK h1, h2⟩⟩
  have TB : ∀ p ∈ cs, LamX.TabB (hidT s₁.heap H) mg p.1 p.2 := by
    intro p hp
    have hTp := hT p hp
    have gP : mainGlobals ≠ p.2 := fun z => by
      obtain ⟨o, es, ep, e, hd, _⟩ := hns
      rw [z, hTp] at e
      cases e
      cases hd
    refine ⟨?_, ?_, gP⟩
    · obtain ⟨o, us, file, tf, flags, tg, inF, text, tt, e1, r1, r2, r3, rest⟩ := C p hp
      refine ⟨o, us, file, tf, flags, tg, inF, text, tt, base_of e1 (off e1 (fun vs n z => ?_) fun z => ?_), r1, r2, r3, rest⟩
      · rw [r2] at z
        cases z
      · rw [r2] at z
        cases z
        simp at r3
    · obtain ⟨bm, ob, b1, b2, b3, b4, b5, b6⟩ := hbm
      have nG : bm ≠ mainGlobals := fun q => by
        obtain ⟨o, es, ep, e, hd, _⟩ := hns
        rw [q, e] at b3
        cases b3
        rw [hd] at b6
        cases b6
      have nP : bm ≠ p.2 := fun q => by
        rw [q, hTp] at b3
        cases b3
        cases b6
      refine ⟨bm, ob, b1, b2, nG, nP, base_of b3 (off b3 (fun vs n z => ?_) fun z => ?_), b4, b5, b6⟩
      · rw [b6] at z
        cases z
      · rw [b6] at z
        cases z
  have e0 : Env0 P w K mg (hidT s₁.heap H) callerA [] s₁ H := ⟨rfl, hM, fun b o e => of_hidT e, Nat.le_of_eq (hidT_size _ _), trivial, fun b hb => absurd (show b ∈ ([] : List Addr) from hb) (by simp), hok, .of_eq hg⟩
  refine codeAny_mono (F _ hKb (nsK hns) TB callerA [] s₁ H [.ref a] [.ref a] _ _ rfl hr e0 (.cons rfl .nil) (hsp H (fun p hp => H_t _ (memT p hp)) seqA)) fun r s' h => ?_
  match r, h with
  | .error e, h =>
    obtain ⟨_, _, _, _, _, _, _, _, _, _, _, _, z⟩ := h
    exact z.elim
  | .ok .next, h => exact h.elim
  | .ok .brk, h => exact h.elim
  | .ok .cont, h => exact h.elim
  | .ok (.ret u), ⟨v, H', os, bare, un, hok', r', q⟩ =>
    have q' : v = .bl true := q
    subst q'
    obtain rfl : u = Value.bool true := r'
    have key : ∀ b o, b ∉ cs.map (·.2) → s₁.heap.get? b = some o → s'.heap.get? b = some o := by
      intro b o nb e
      by_cases hb : b = a
      · subst hb
        rcases scr_cases with ⟨z, _⟩ | ⟨z, _⟩
        · exact un.keep b o e (H_a.trans z) (by simp [frs]) (by simp)
        · have z2 := un.frzs b _ _ (H_a.trans z)
          obtain ⟨e2, _⟩ := hok' b _ z2
          rw [ha] at e
          cases e
          exact e2
      · exact un.keep b o e (H_o b nb hb) (by simp [frs]) (by simp)
    have grown : ∀ p ∈ cs, ∃ more : Array Value, s'.heap.get? p.2 = some { cls := .none, data := .fields more } := by
      intro p hp
      obtain ⟨more, z⟩ := un.tbls p.2 #[] (H_t _ (memT p hp))
      exact ⟨_, hok' p.2 _ z⟩
    refine ⟨rfl, ⟨fun b o e => ?_, fun b o e => ?_⟩, os, bare⟩
    · by_cases hb : b ∈ cs.map (·.2)
      · obtain ⟨p, hp, ep⟩ := List.mem_map.mp hb
        subst ep
        obtain ⟨more, hm⟩ := grown p hp
        have z := (hT p hp).symm.trans e
        cases z
        exact .inr (.inl ⟨((C p hp).tab (hT p hp)).isCodeTable, rfl, #[], more, rfl, by rw [Array.empty_append]; exact hm⟩)
      · exact .inl (key b o hb e)
    · by_cases hb : b ∈ cs.map (·.2)
      · obtain ⟨p, hp, ep⟩ := List.mem_map.mp hb
        subst ep
        obtain ⟨more, hm⟩ := grown p hp
        exact ⟨_, hm⟩
      · exact ⟨o, key b o hb e⟩
/-- what is to be shown of the law's def at the heap behind the top -/
def LawAt (l : PySem.W.OpenLaw) (w : World) (K : PySem.W.Frag) (k n : Nat) (mg : Str → Option Value) (fa : Addr) (h : Heap) : Prop :=
  ∃ (cs : List (Addr × Addr)) (sp : Sp), (∀ p ∈ cs, h.get? p.2 = some { cls := .none, data := .fields #[] }) ∧ (∀ p ∈ cs, K.lookup p.2 = none) ∧ (∀ p ∈ cs, PySem.W.CodeHd h p.1 p.2) ∧
    (∀ (H : Hp) (a : Addr) (ns : List Int), ns.length ≤ n → (∀ z ∈ ns, Builtin.Int.intBits z ≤ 1048576) → (∀ p ∈ cs, H p.2 = some (.tbl #[])) → SqL K H a (ns.map V.int) → sp [.ref a] H (fun v _ => v = .bl true) fun _ _ _ => False) ∧
    ∀ base : Heap, K.In base → base.Ns mainGlobals mg → (∀ p ∈ cs, LamX.TabB base mg p.1 p.2) → Fn l.prog w K mg base k fa sp
theorem walk_law {l : PySem.W.OpenLaw} {n k : Nat} {q : Program} {loose : List Str} {XP : (Str → Option Value) → Heap → Prop} {YP : World → Heap → Prop} {d : DefRec} {K : Params → PySem.W.Frag}
    (hn : l.most = some n) (hn2 : n ≤ sizeLine) (hdf : d.params.defaults = []) (hr : Room k callerA) (hY : ∀ (w : World) (h : Heap), YP w h → (K w.params).In h)
    (F : ∀ (w : World) (mg : Str → Option Value) (fa : Addr) (h : Heap), YP w h → (K w.params).In h → h.Ns mainGlobals mg → mg d.name = some (.ref fa) → LawAt l w (K w.params) k n mg fa h) :
    PySem.W.WalkO q loose XP YP l.row.toRowW d [] (fun f vs => PySem.call f vs) := by
  refine Att.attach_callB hn hdf ?_
  intro w s₀ s₁ mg mb fa o pm cd doc a vs ns G Y ho hd hcd hmg hobj hints hlen hbits hg
  obtain ⟨cs, sp, hT, nT, C, hsp, hF⟩ := F w mg fa _ Y (hY w _ Y) G.T.g hmg
  exact law_enter (hY w _ Y) G.T.g G.T.b G.T.builtins G.T.nolimit hg hT nT C G.T.bmain hobj hints (Nat.le_trans hlen hn2) hr hF fun H hH hS => hsp H a ns hlen hbits hH hS
end LG
/-! A lambda without parameters handed to a def: its body knows which guards are on the stack. -/
namespace LG
open PySem PySem.Spec PyProof.Rows L2 LamX
section
variable {X : Cx} {pins : List (Addr × Obj)} {σ : L2.St} {H : Hp} {s : Shared}
/-- the call of the lambda f, which the context X made at (s, H), from inside the def g -/
theorem lam_run {Eg : XK} {Ng : List Str} {qg : Str} {sg : Scope} {g f c' : Addr} {cdg pm ctv : Value} {params : Arguments} {body : Expr} {scope : Scope} {k i : Nat} {v : Str} {pn : List (Addr × Obj)} {xe : Value → Shared → Prop} {W : WX} {E : XK} {tb : TE} {p1 p2 : Pos}
    (I : Inv X pins σ H s) (L : LamS X.env.scope scope) (hf : s.heap.get? f = some (PySem.W.kla_obj "<lambda>" (X.env.qual ++ "<lambda>") params body scope (cloFrom X.env.cells scope.names []) pm c' ctv)) (hfn : H f = none) (hfr : f ∉ frs X.stack)
    (hbind : bindArgs (PySem.W.kla_fn "<lambda>" (X.env.qual ++ "<lambda>") params body scope (cloFrom X.env.cells scope.names []) pm (.ref c') ctv) ⟨[], []⟩ = pure [])
    (tk : Takes ((cxOf C8.CX0 X.prog X.w X.K X.mg X.base Ng qg sg g cdg X.A X.stack s H Eg).tr pn xe) W) (hW : ∀ cls d σ' H', E cls d H' → W cls d σ' H') (hr : Room (k + 1) (X.A.deeper (envOfC qg sg s.heap.objs.size g cdg)))
    (hbody : ∀ (A : Around) (outer : List Env) (s : Shared) (H : Hp), A.guards = X.A.guards → Room k (A.deeper (lamEnv X scope s.heap.objs.size f c')) → PE (lamCx X A outer s H E scope f c') body tb)
    (hN : Ng[i]? = some v) (hv : Vis sg v) (hd : (v == ("__debug__" : Str)) = false := by decide) (hcd : (v == ("__classdict__" : Str)) = false := by decide) :
    PE ((cxOf C8.CX0 X.prog X.w X.K X.mg X.base Ng qg sg g cdg X.A X.stack s H Eg).tr pn xe) (.Call (.Name v p1) [] [] p2)
      (fun σZ HZ Q => σZ[i]? = some (some (.ref f)) ∧ HZ c' = some (CodeO c' (X.env.qual ++ "<lambda>")) ∧ tb σ HZ Q) := by
  constructor
  intro pinsZ sZ σZ HZ Q IZ ⟨hs, hc, ht⟩
  refine wpAny_Call_Name_kw (thn ((pe_var (pos := p1) (i := i) hN hv hd hcd).run pinsZ sZ σZ HZ (fun u H1 => u = .ref f ∧ H1 = HZ) IZ ⟨.ref f, hs, rfl, rfl⟩) ?_)
  rintro u s1 ⟨_, H1, I1, r1, rfl, rfl⟩
  obtain rfl : u = Value.ref f := r1
  have stands := I1.base.keep f _ hf hfn hfr fun z => nomatch (show f ∈ ([] : List Addr) from z)
  have un : Un (frs X.stack) [] H H1 s.heap s1.heap := I1.base
  obtain ⟨⟨oc, vs, t, hoc, hdc, hvc⟩, _, _⟩ := I1.hok c' _ hc
  have rc : codeAny (model X.prog X.w) (X.A.deeper (envOfC qg sg s.heap.objs.size g cdg)) (.call (.ref f) ⟨[], []⟩) (CR (L2.CX X.prog X.w) (envOfC qg sg s.heap.objs.size g cdg :: X.stack) X.prog X.w H1 s1 Q E) s1 := by
    refine PySem.W.kla_callFunE hr.depth stands rfl L.co L.gen rfl ⟨c', oc, vs, t, rfl, hoc, hdc, hvc⟩ ?_
    rw [hbind]
    refine wpAny_pure (wpAny_newFunctionEnv (fun y hy => (L.own y hy).2) (fun y hy => absurd hy (by simp)) (fun h₁ hns hsb => ⟨I1.nolimit.fresh _ hsb, ?_⟩) L.kind)
    show codeAny _ _ (.expr body (lamEnv X scope s1.heap.objs.size f c')) _ _
    have J := lam_start2 (X := X) (f := f) (c' := c') (E := E) (tk := s1.toks + ([] : List (Str × Value)).length) I L I1.env0 hr.hd un hns fun b o e => hsb.extBut b o (Nat.ne_of_lt (Heap.lt_size e)) (Heap.get?_push_of_some _ e)
    refine PySem.W.kla_codeExpr (wpAny_mono ((hbody (X.A.deeper (envOfC qg sg s.heap.objs.size g cdg)) _ s1 H1 rfl (hr.deeper _)).run [] _ _ H1 Q J ht) ?_ fun e s' hq => hq)
    rintro u s' ⟨w', H', J', rv, q⟩
    exact ⟨w', H', J'.os, J'.bare, J'.base, J'.hok, rv, q⟩
  refine PySem.W.callWith_F0 ⟨_, _, _, _, stands⟩ (wpAny_call (codeAny_mono rc fun r s' hq => ?_))
  match r, hq with
    | .error e, hq => exact passes_call tk hW pinsZ σZ H1 s1 e s' I1 hq
    | .ok (.ret u), hq => exact I1.after hq
    | .ok .next, hq => exact hq.elim
    | .ok .brk, hq => exact hq.elim
    | .ok .cont, hq => exact hq.elim
end
section
variable {X : Cx}
/-- x(lambda: body), the def x given as a text; its TT tells what it makes of the lambda -/
theorem pe_lamG {T : List (Addr × Str)} {TT : (XK → Hp → VK → Prop) → Hp → VK → Prop} {x v : Str} {g c P : Addr} {k : Nat} {st : Stmt} {fd : FuncData} {Ng : List Str} {params : Arguments} {body : Expr} {scope : Scope} {t : XK → TE} {p lpos pos : Pos}
    (hg : Gl X x) (hm : X.mg x = some (.ref g)) (F : Fun X.K x x st g fd) (hb : Binds X.K fd [v] []) (Sg : FnScope Ng [v] (defScope st)) (hNg : Ng[0]? = some v) (hva : Vis (defScope st) v)
    (hG : ∀ cdg : Value, PySem.W.codeIn X.K cdg x = true → GivesTo X Ng x (defScope st) g cdg (defBody st) v (X.env.qual ++ "<lambda>") TT)
    (TB : TabB X.base X.mg c P) (hcode : X.env.code = .ref c) (hmT : (P, X.env.qual ++ "<lambda>") ∈ T) (hu : ∀ p ∈ T, p.1 = P → p.2 = X.env.qual ++ "<lambda>") (hr : Room (k + 2) X.A) (L : LamS X.env.scope scope) (hdef : defaultsOf params X.env = ([], []))
    (hbind : ∀ (q : Str) (cl : List (Str × Addr)) (pm cv ctv : Value), bindArgs (PySem.W.kla_fn "<lambda>" q params body scope cl pm cv ctv) ⟨[], []⟩ = pure [])
    (hbody : ∀ (A : Around) (outer : List Env) (s : Shared) (H : Hp) (E : XK) (f c' : Addr), A.guards = X.A.guards → Room k (A.deeper (lamEnv X scope s.heap.objs.size f c')) → PE (lamCx X A outer s H E scope f c') body (t E))
    (hdb : (x == ("__debug__" : Str)) = false := by decide) (hd : (v == ("__debug__" : Str)) = false := by decide) (hcd : (v == ("__classdict__" : Str)) = false := by decide) :
    PE X (.Call (.Name x p) [.Lambda params body scope lpos] [] pos) (tLam T TT t) := by
  constructor
  intro pins s σ H Q I ⟨hT, h⟩
  have hk := F.kp
  obtain ⟨oc, od, kV, doc, pm, an, cdv, ct, osl, rfl, lk, hcg⟩ := F.ex
  refine wpAny_Call_Name_kw (ld_glob I hg hm (PySem.W.callWith_K (h₀ := X.base) I.ok.mod.kin hk ?_ (by rfl) (by rfl)) hdb)
  refine Calls.spliced_cons (lam_make2 I TB hcode hmT hu hT hdef (L.has I.ok) fun f c' pm' ctv H1 s' I1 eN T1 hf hfn hfr hco => Calls.spliced_nil ⟨I1.kIn, ?_⟩)
  refine wpAny_call (codeAny_mono (R := CR C8.CX0 X.stack X.prog X.w H1 s' Q C8.E0) ?_ fun r s2 hq => ?_)
  · refine run_ofS (N := Ng) (ps := [v]) (us := [.ref f]) (vs := [.ref f]) lk hcg Sg hr I1.env0 (hb s' [.ref f] I1.kIn rfl) (.cons rfl .nil) rfl fun hr' => ?_
    obtain ⟨t', ht', hq'⟩ := hG cdv hcg f c' s' H1 Q (fun E H' Q' => t E σ H' Q') (fun W pn xe E p1 p2 tk hW => lam_run (i := 0) I1 L hf hfn hfr (hbind _ _ _ _ _) tk hW hr' (fun A outer s H e hr2 => hbody A outer s H E f c' e hr2) hNg hva hd hcd) hco (h H1 eN T1)
    exact ⟨t', ht'.nox, hq'⟩
  · match r, hq with
    | .error e, hq => exact (show False from hq).elim
    | .ok (.ret u), hq => exact I1.after hq
    | .ok .next, hq => exact hq.elim
    | .ok .brk, hq => exact hq.elim
    | .ok .cont, hq => exact hq.elim
end
end LG
namespace K11
open PySem PySem.Spec PyProof.Rows L2 LG
def top (i : Nat) : Stmt := PySem.Challenge.pw_rankchances_k11_values_levels_and_extrem.main.body.getD i (.Pass ⟨0, 0, 0, 0⟩)
abbrev s_is_integer : Stmt := top 10
abbrev s_is_end : Stmt := top 11
abbrev s_is_list : Stmt := top 12
abbrev s_is_value : Stmt := top 13
abbrev s_want_value : Stmt := top 14
abbrev s_want_integer : Stmt := top 15
abbrev s_is_not_less : Stmt := top 16
abbrev s_least_of : Stmt := top 17
abbrev s_greatest_of : Stmt := top 18
abbrev s_end_at : Stmt := top 19
abbrev s_integers_in : Stmt := top 20
abbrev s_is_at_least : Stmt := top 21
abbrev s_lesser_of : Stmt := top 22
abbrev s_greater_of : Stmt := top 23
abbrev s_at_level : Stmt := top 24
abbrev s_levels_of : Stmt := top 25
abbrev s__law_pot : Stmt := top 27
abbrev s__law_draw : Stmt := top 28
abbrev s__law_pick : Stmt := top 29
abbrev s__law_number : Stmt := top 30
abbrev s__law_shown : Stmt := top 31
abbrev s__law_thing : Stmt := top 32
abbrev s__law_things : Stmt := top 33
abbrev s__law_odd : Stmt := top 34
abbrev s__law_extreme : Stmt := top 35
abbrev s__law_told : Stmt := top 36
abbrev s__law_pairs_right : Stmt := top 37
abbrev s__law_levels_right : Stmt := top 38
abbrev s__law_extremes_right : Stmt := top 39
abbrev s__law_eight_right : Stmt := top 40
abbrev s__law_refused_right : Stmt := top 41
abbrev s__law_right : Stmt := top 42
abbrev s_law : Stmt := top 43
abbrev s_init : Stmt := inClass (top 1) 0
theorem sc_is_integer : FnScope ["value"] ["value"] (defScope s_is_integer) := ⟨rfl, rfl, rfl, by decide +kernel, rfl, by decide +kernel, by decide +kernel⟩
theorem sc_is_end : FnScope ["value"] ["value"] (defScope s_is_end) := ⟨rfl, rfl, rfl, by decide +kernel, rfl, by decide +kernel, by decide +kernel⟩
theorem sc_is_list : FnScope ["value"] ["value"] (defScope s_is_list) := ⟨rfl, rfl, rfl, by decide +kernel, rfl, by decide +kernel, by decide +kernel⟩
theorem sc_is_value : FnScope ["value"] ["value"] (defScope s_is_value) := ⟨rfl, rfl, rfl, by decide +kernel, rfl, by decide +kernel, by decide +kernel⟩
theorem sc_want_value : FnScope ["value"] ["value"] (defScope s_want_value) := ⟨rfl, rfl, rfl, by decide +kernel, rfl, by decide +kernel, by decide +kernel⟩
theorem sc_want_integer : FnScope ["value"] ["value"] (defScope s_want_integer) := ⟨rfl, rfl, rfl, by decide +kernel, rfl, by decide +kernel, by decide +kernel⟩
theorem sc_is_not_less : FnScope ["one", "other"] ["one", "other"] (defScope s_is_not_less) := ⟨rfl, rfl, rfl, by decide +kernel, rfl, by decide +kernel, by decide +kernel⟩
theorem sc_least_of : FnScope ["values", "found", "value"] ["values"] (defScope s_least_of) := ⟨rfl, rfl, rfl, by decide +kernel, rfl, by decide +kernel, by decide +kernel⟩
theorem sc_greatest_of : FnScope ["values", "found", "value"] ["values"] (defScope s_greatest_of) := ⟨rfl, rfl, rfl, by decide +kernel, rfl, by decide +kernel, by decide +kernel⟩
theorem sc_end_at : FnScope ["value", "level"] ["value", "level"] (defScope s_end_at) := ⟨rfl, rfl, rfl, by decide +kernel, rfl, by decide +kernel, by decide +kernel⟩
theorem sc_integers_in : FnScope ["values", "value"] ["values"] (defScope s_integers_in) := ⟨rfl, rfl, rfl, by decide +kernel, rfl, by decide +kernel, by decide +kernel⟩
theorem sc_is_at_least : FnScope ["one", "other"] ["one", "other"] (defScope s_is_at_least) := ⟨rfl, rfl, rfl, by decide +kernel, rfl, by decide +kernel, by decide +kernel⟩
theorem sc_lesser_of : FnScope ["values", "value"] ["values"] (defScope s_lesser_of) := ⟨rfl, rfl, rfl, by decide +kernel, rfl, by decide +kernel, by decide +kernel⟩
theorem sc_greater_of : FnScope ["values", "value"] ["values"] (defScope s_greater_of) := ⟨rfl, rfl, rfl, by decide +kernel, rfl, by decide +kernel, by decide +kernel⟩
theorem sc_at_level : FnScope ["value", "level"] ["value", "level"] (defScope s_at_level) := ⟨rfl, rfl, rfl, by decide +kernel, rfl, by decide +kernel, by decide +kernel⟩
theorem sc_levels_of : FnScope ["values", "value"] ["values"] (defScope s_levels_of) := ⟨rfl, rfl, rfl, by decide +kernel, rfl, by decide +kernel, by decide +kernel⟩
theorem sc__law_pot : FnScope ["script", "k", "cell"] ["script", "k"] (defScope s__law_pot) := ⟨rfl, rfl, rfl, by decide +kernel, rfl, by decide +kernel, by decide +kernel⟩
theorem sc__law_draw : FnScope ["pot", "many", "digit"] ["pot", "many"] (defScope s__law_draw) := ⟨rfl, rfl, rfl, by decide +kernel, rfl, by decide +kernel, by decide +kernel⟩
theorem sc__law_pick : FnScope ["pot", "some"] ["pot", "some"] (defScope s__law_pick) := ⟨rfl, rfl, rfl, by decide +kernel, rfl, by decide +kernel, by decide +kernel⟩
theorem sc__law_number : FnScope ["thing"] ["thing"] (defScope s__law_number) := ⟨rfl, rfl, rfl, by decide +kernel, rfl, by decide +kernel, by decide +kernel⟩
theorem sc__law_shown : FnScope ["number"] ["number"] (defScope s__law_shown) := ⟨rfl, rfl, rfl, by decide +kernel, rfl, by decide +kernel, by decide +kernel⟩
theorem sc__law_thing : FnScope ["pot", "before", "way", "bound", "near"] ["pot", "before"] (defScope s__law_thing) := ⟨rfl, rfl, rfl, by decide +kernel, rfl, by decide +kernel, by decide +kernel⟩
theorem sc__law_things : FnScope ["pot", "many", "found", "turn", "one"] ["pot", "many"] (defScope s__law_things) := ⟨rfl, rfl, rfl, by decide +kernel, rfl, by decide +kernel, by decide +kernel⟩
theorem sc__law_odd : FnScope ["pot"] ["pot"] (defScope s__law_odd) := ⟨rfl, rfl, rfl, by decide +kernel, rfl, by decide +kernel, by decide +kernel⟩
theorem sc__law_extreme : FnScope ["way", "some"] ["way", "some"] (defScope s__law_extreme) := ⟨rfl, rfl, rfl, by decide +kernel, rfl, by decide +kernel, by decide +kernel⟩
theorem sc__law_told : FnScope ["act", "told", "e"] ["act"] (defScope s__law_told) := ⟨rfl, rfl, rfl, by decide +kernel, rfl, by decide +kernel, by decide +kernel⟩
theorem sc__law_pairs_right : FnScope ["things", "one", "two", "marks", "near", "thing", "mark", "rank"] ["things"] (defScope s__law_pairs_right) := ⟨rfl, rfl, rfl, by decide +kernel, rfl, by decide +kernel, by decide +kernel⟩
theorem sc__law_levels_right : FnScope ["pot", "things", "one", "due", "shown", "told", "own", "rank"] ["pot", "things"] (defScope s__law_levels_right) := ⟨rfl, rfl, rfl, by decide +kernel, rfl, by decide +kernel, by decide +kernel⟩
theorem sc__law_extremes_right : FnScope ["some", "numbers", "due", "one"] ["some"] (defScope s__law_extremes_right) := ⟨rfl, rfl, rfl, by decide +kernel, rfl, by decide +kernel, by decide +kernel⟩
theorem sc__law_eight_right : FnScope ["pot", "x", "numbers", "told", "one"] ["pot"] (defScope s__law_eight_right) := ⟨rfl, rfl, rfl, by decide +kernel, rfl, by decide +kernel, by decide +kernel⟩
theorem sc__law_refused_right : FnScope ["pot", "things", "some", "told", "rank", "wrong", "odd", "more"] ["pot", "things"] (defScope s__law_refused_right) := ⟨rfl, rfl, rfl, by decide +kernel, rfl, by decide +kernel, by decide +kernel⟩
theorem sc__law_right : FnScope ["pot", "things", "one"] ["pot"] (defScope s__law_right) := ⟨rfl, rfl, rfl, by decide +kernel, rfl, by decide +kernel, by decide +kernel⟩
theorem sc_law : FnScope ["script", "k"] ["script"] (defScope s_law) := ⟨rfl, rfl, rfl, by decide +kernel, rfl, by decide +kernel, by decide +kernel⟩
theorem sc_init : FnScope ["self", "value"] ["self", "value"] (defScope s_init) := ⟨rfl, rfl, rfl, by decide +kernel, rfl, by decide +kernel, by decide +kernel⟩
/-- where the things of the top stand -/
structure At where
  c_HeldError : Addr
  c_InvalidValue : Addr
  c_InvalidInteger : Addr
  c_InvalidValues : Addr
  init : Addr
  is_integer : Addr
  is_end : Addr
  is_list : Addr
  is_value : Addr
  want_value : Addr
  want_integer : Addr
  is_not_less : Addr
  least_of : Addr
  greatest_of : Addr
  end_at : Addr
  integers_in : Addr
  is_at_least : Addr
  lesser_of : Addr
  greater_of : Addr
  at_level : Addr
  levels_of : Addr
  _law_pot : Addr
  _law_draw : Addr
  _law_pick : Addr
  _law_number : Addr
  _law_shown : Addr
  _law_thing : Addr
  _law_things : Addr
  _law_odd : Addr
  _law_extreme : Addr
  _law_told : Addr
  _law_pairs_right : Addr
  _law_levels_right : Addr
  _law_extremes_right : Addr
  _law_eight_right : Addr
  _law_refused_right : Addr
  _law_right : Addr
  law : Addr
  t_BOTTOM : Tok
  t_TOP : Tok
  t_NO_BOUND : Tok
  ENDS : Addr
/-- a def of the text as the top has left it -/
structure GFn (K : PySem.W.Frag) (mg : Str → Option Value) (x : Str) (st : Stmt) (f : Addr) : Prop where
  m : mg x = some (.ref f)
  F : ∃ fd, Fun K x x st f fd
theorem GFn.kp {K : PySem.W.Frag} {mg : Str → Option Value} {x : Str} {st : Stmt} {f : Addr} (g : GFn K mg x st f) : PySem.W.keepIn K (.ref f) = true := let ⟨_, h⟩ := g.F; h.kp
/-- an error class: its __init__ is the base's -/
structure GEx (K : PySem.W.Frag) (mg : Str → Option Value) (x : Str) (C fI : Addr) : Prop where
  m : mg x = some (.ref C)
  o : OexC K C
  i : PySem.W.findIn K (.ref C) "__init__" = some (some (.ref fI))
  v : PySem.W.findIn K (.ref C) "value" = some none
  xf : XfC K C
  is : ExcC K C
structure Txt (K : PySem.W.Frag) (mg : Str → Option Value) (a : At) : Prop where
  d_is_integer : GFn K mg "is_integer" s_is_integer a.is_integer
  d_is_end : GFn K mg "is_end" s_is_end a.is_end
  d_is_list : GFn K mg "is_list" s_is_list a.is_list
  d_is_value : GFn K mg "is_value" s_is_value a.is_value
  d_want_value : GFn K mg "want_value" s_want_value a.want_value
  d_want_integer : GFn K mg "want_integer" s_want_integer a.want_integer
  d_is_not_less : GFn K mg "is_not_less" s_is_not_less a.is_not_less
  d_least_of : GFn K mg "least_of" s_least_of a.least_of
  d_greatest_of : GFn K mg "greatest_of" s_greatest_of a.greatest_of
  d_end_at : GFn K mg "end_at" s_end_at a.end_at
  d_integers_in : GFn K mg "integers_in" s_integers_in a.integers_in
  d_is_at_least : GFn K mg "is_at_least" s_is_at_least a.is_at_least
  d_lesser_of : GFn K mg "lesser_of" s_lesser_of a.lesser_of
  d_greater_of : GFn K mg "greater_of" s_greater_of a.greater_of
  d_at_level : GFn K mg "at_level" s_at_level a.at_level
  d_levels_of : GFn K mg "levels_of" s_levels_of a.levels_of
  d__law_pot : GFn K mg "_law_pot" s__law_pot a._law_pot
  d__law_draw : GFn K mg "_law_draw" s__law_draw a._law_draw
  d__law_pick : GFn K mg "_law_pick" s__law_pick a._law_pick
  d__law_number : GFn K mg "_law_number" s__law_number a._law_number
  d__law_shown : GFn K mg "_law_shown" s__law_shown a._law_shown
  d__law_thing : GFn K mg "_law_thing" s__law_thing a._law_thing
  d__law_things : GFn K mg "_law_things" s__law_things a._law_things
  d__law_odd : GFn K mg "_law_odd" s__law_odd a._law_odd
  d__law_extreme : GFn K mg "_law_extreme" s__law_extreme a._law_extreme
  d__law_told : GFn K mg "_law_told" s__law_told a._law_told
  d__law_pairs_right : GFn K mg "_law_pairs_right" s__law_pairs_right a._law_pairs_right
  d__law_levels_right : GFn K mg "_law_levels_right" s__law_levels_right a._law_levels_right
  d__law_extremes_right : GFn K mg "_law_extremes_right" s__law_extremes_right a._law_extremes_right
  d__law_eight_right : GFn K mg "_law_eight_right" s__law_eight_right a._law_eight_right
  d__law_refused_right : GFn K mg "_law_refused_right" s__law_refused_right a._law_refused_right
  d__law_right : GFn K mg "_law_right" s__law_right a._law_right
  d_law : GFn K mg "law" s_law a.law
  z_ValueError : mg "ValueError" = none
  z_abs : mg "abs" = none
  z_all : mg "all" = none
  z_bool : mg "bool" = none
  z_divmod : mg "divmod" = none
  z_int : mg "int" = none
  z_isinstance : mg "isinstance" = none
  z_len : mg "len" = none
  z_list : mg "list" = none
  z_max : mg "max" = none
  z_min : mg "min" = none
  z_range : mg "range" = none
  z_repr : mg "repr" = none
  z_set : mg "set" = none
  z_sorted : mg "sorted" = none
  z_str : mg "str" = none
  z_tuple : mg "tuple" = none
  v_BOTTOM : mg "BOTTOM" = some (.str "bottom" a.t_BOTTOM)
  v_TOP : mg "TOP" = some (.str "top" a.t_TOP)
  v_NO_BOUND : mg "NO_BOUND" = some (.str "no bound" a.t_NO_BOUND)
  v_ENDS : mg "ENDS" = some (.ref a.ENDS)
  l_ENDS : ∃ (od : Option Addr) (its : List Value) (n : Nat) (sl : Array (Option Value)), K.lookup a.ENDS = some ⟨.type "tuple", od, .seq its.toArray n, sl⟩ ∧ Vals [.str "bottom", .str "top"] its
  e_HeldError : GEx K mg "HeldError" a.c_HeldError a.init
  e_InvalidValue : GEx K mg "InvalidValue" a.c_InvalidValue a.init
  e_InvalidInteger : GEx K mg "InvalidInteger" a.c_InvalidInteger a.init
  e_InvalidValues : GEx K mg "InvalidValues" a.c_InvalidValues a.init
  ti : PySem.W.typeIn K (.ref a.init) = some (.type "function")
  di : ∃ fd, FunD K "__init__" "HeldError.__init__" (defArgs s_init) (defBody s_init) (defScope s_init) [.non] [] a.init fd
  x_HeldError_HeldError : PySem.W.subIn K (.ref a.c_HeldError) (.ref a.c_HeldError) = some true
  x_HeldError_InvalidValue : PySem.W.subIn K (.ref a.c_HeldError) (.ref a.c_InvalidValue) = some false
  x_HeldError_InvalidInteger : PySem.W.subIn K (.ref a.c_HeldError) (.ref a.c_InvalidInteger) = some false
  x_HeldError_InvalidValues : PySem.W.subIn K (.ref a.c_HeldError) (.ref a.c_InvalidValues) = some false
  x_InvalidValue_HeldError : PySem.W.subIn K (.ref a.c_InvalidValue) (.ref a.c_HeldError) = some true
  x_InvalidValue_InvalidValue : PySem.W.subIn K (.ref a.c_InvalidValue) (.ref a.c_InvalidValue) = some true
  x_InvalidValue_InvalidInteger : PySem.W.subIn K (.ref a.c_InvalidValue) (.ref a.c_InvalidInteger) = some false
  x_InvalidValue_InvalidValues : PySem.W.subIn K (.ref a.c_InvalidValue) (.ref a.c_InvalidValues) = some false
  x_InvalidInteger_HeldError : PySem.W.subIn K (.ref a.c_InvalidInteger) (.ref a.c_HeldError) = some true
  x_InvalidInteger_InvalidValue : PySem.W.subIn K (.ref a.c_InvalidInteger) (.ref a.c_InvalidValue) = some false
  x_InvalidInteger_InvalidInteger : PySem.W.subIn K (.ref a.c_InvalidInteger) (.ref a.c_InvalidInteger) = some true
  x_InvalidInteger_InvalidValues : PySem.W.subIn K (.ref a.c_InvalidInteger) (.ref a.c_InvalidValues) = some false
  x_InvalidValues_HeldError : PySem.W.subIn K (.ref a.c_InvalidValues) (.ref a.c_HeldError) = some true
  x_InvalidValues_InvalidValue : PySem.W.subIn K (.ref a.c_InvalidValues) (.ref a.c_InvalidValue) = some false
  x_InvalidValues_InvalidInteger : PySem.W.subIn K (.ref a.c_InvalidValues) (.ref a.c_InvalidInteger) = some false
  x_InvalidValues_InvalidValues : PySem.W.subIn K (.ref a.c_InvalidValues) (.ref a.c_InvalidValues) = some true
  y_HeldError : PySem.W.subIn K (.ref a.c_HeldError) (.type "ValueError") = some true
  y_InvalidValue : PySem.W.subIn K (.ref a.c_InvalidValue) (.type "ValueError") = some true
  y_InvalidInteger : PySem.W.subIn K (.ref a.c_InvalidInteger) (.type "ValueError") = some true
  y_InvalidValues : PySem.W.subIn K (.ref a.c_InvalidValues) (.type "ValueError") = some true
theorem GFn.fn {P : Program} {w : World} {K : PySem.W.Frag} {mg : Str → Option Value} {base : Heap} {x : Str} {st : Stmt} {f : Addr} {N ps : List Str} {sp : Sp} {k : Nat} (g : GFn K mg x st f) (S : FnScope N ps (defScope st))
    (hb : ∀ (kV doc pm : Value) (an : Option Addr) (cdv ct : Value) (us : List Value), us.length = ps.length → bindArgs (PySem.W.fnOf x x (defArgs st) (defBody st) (defScope st) .none kV doc pm an cdv ct) ⟨us, []⟩ = pure (ps.zip us))
    (len : ∀ vs H Q E, sp vs H Q E → vs.length = ps.length)
    (body : ∀ (cdv : Value) (A : Around) (outer : List Env) (s : Shared) (H : Hp) (vs : List V) (Q : VK) (E : XK), A.guards = some [] → Room k (A.deeper (envOfC x (defScope st) s.heap.objs.size f cdv)) → sp vs H Q E →
      ∃ t, PSs (cxOf (L2.CX P w) P w K mg base N x (defScope st) f cdv A outer s H E) (defBody st) t ∧ t { nx := fun _ H' => Q .non H', rt := Q } (start N vs) H) : Fn P w K mg base (k + 1) f sp := by
  obtain ⟨fd, F⟩ := g.F
  exact Fn.of F S (F.binds hb) len fun cdv A outer s H vs Q E hg hr _ h => body cdv A outer s H vs Q E hg hr h
/-- what a callee lets out, the def lets out -/
theorem passC {P : Program} {w : World} {K : PySem.W.Frag} {mg : Str → Option Value} {base : Heap} {N : List Str} {q : Str} {sc : Scope} {f : Addr} {cdv : Value} {A : Around} {outer : List Env} {s : Shared} {H : Hp} {E : XK} :
    Passes (L2.CX P w) (cxOf (L2.CX P w) P w K mg base N q sc f cdv A outer s H E) E := passes_call (takes_of rfl rfl rfl rfl) fun _ _ _ _ h => h
theorem takeC {P : Program} {w : World} {K : PySem.W.Frag} {mg : Str → Option Value} {base : Heap} {N : List Str} {q : Str} {sc : Scope} {f : Addr} {cdv : Value} {A : Around} {outer : List Env} {s : Shared} {H : Hp} {E : XK} :
    Takes (cxOf (L2.CX P w) P w K mg base N q sc f cdv A outer s H E) (fun cls d _ H' => E cls d H') := takes_of rfl rfl rfl rfl
theorem ownC {P : Program} {w : World} {K : PySem.W.Frag} {mg : Str → Option Value} {base : Heap} {N : List Str} {q : Str} {sc : Scope} {f : Addr} {cdv : Value} {A : Around} {outer : List Env} {s : Shared} {H : Hp} {E : XK} :
    PassesOwn (model (cxOf (L2.CX P w) P w K mg base N q sc f cdv A outer s H E).prog (cxOf (L2.CX P w) P w K mg base N q sc f cdv A outer s H E).w) (cxOf (L2.CX P w) P w K mg base N q sc f cdv A outer s H E).A (cxOf (L2.CX P w) P w K mg base N q sc f cdv A outer s H E).env (cxOf (L2.CX P w) P w K mg base N q sc f cdv A outer s H E).xe := PassesOwn.leaving
/-- a built-in class as a value -/
theorem pe_ty {X : Cx} {x : Str} {pos : Pos} (n : String) (hg : Gl X x) (hm : X.mg x = none) (hv : bootBuiltins x = some (.type n)) (hn : x ≠ "__name__" := by decide) (hd : (x == ("__debug__" : Str)) = false := by decide) : PE X (.Name x pos) (tC (.ty n)) := by
  first
    | exact pe_bltn hg hm hv rfl (hd := hd)
    | exact pe_bltn hg hm hv rfl hn hd
end K11
namespace K11
open PySem PySem.Spec PyProof.Rows L2 LG
/-! ### values and what is known of them -/
/-- a value whose class is known -/
inductive Kn (H : Hp) : V → String → Prop
  | non : Kn H .non "NoneType"
  | bl (b : Bool) : Kn H (.bl b) "bool"
  | int (i : Int) : Kn H (.int i) "int"
  | str (x : Str) : Kn H (.str x) "str"
  | lst {p : Addr} {xs : List V} (h : H p = some (.lst xs)) : Kn H (.ref p) "list"
  | tup {p : Addr} {xs : List V} (h : H p = some (.tup xs)) : Kn H (.ref p) "tuple"
  | dic {p : Addr} {kvs : List (Key × V)} (h : H p = some (.dK kvs)) : Kn H (.ref p) "dict"
theorem Kn.ty {K : PySem.W.Frag} {H : Hp} {v : V} {t : String} (h : Kn H v t) : TyX K H v (.type t) := by
  cases h with
  | non => exact .base .non
  | bl b => exact .base (.bl b)
  | int i => exact .base (.int i)
  | str x => exact .base (.str x)
  | lst h => exact .base (.lst h)
  | tup h => exact .base (.tup h)
  | dic h => exact .base (.dK h)
theorem kn_int {K : PySem.W.Frag} {H : Hp} {v : V} {t : String} (h : Kn H v t) : PySem.W.kitOne K (.type t) (.type "int") = some (t == "int" || t == "bool") := by
  cases h <;> exact kit_ty (by decide +kernel)
theorem kn_bool {K : PySem.W.Frag} {H : Hp} {v : V} {t : String} (h : Kn H v t) : PySem.W.kitOne K (.type t) (.type "bool") = some (t == "bool") := by
  cases h <;> exact kit_ty (by decide +kernel)
theorem kn_str {K : PySem.W.Frag} {H : Hp} {v : V} {t : String} (h : Kn H v t) : PySem.W.kitOne K (.type t) (.type "str") = some (t == "str") := by
  cases h <;> exact kit_ty (by decide +kernel)
theorem kn_list {K : PySem.W.Frag} {H : Hp} {v : V} {t : String} (h : Kn H v t) : PySem.W.kitAny K (.type t) [.type "list", .type "tuple"] = some (t == "list" || t == "tuple") := by
  cases h with
  | non => exact kitAny_cons (kit_ty (by decide +kernel) : _ = some false) (fun _ => kitAny_cons (kit_ty (by decide +kernel) : _ = some false) (fun _ => kitAny_nil) (fun z => by cases z)) (fun z => by cases z)
  | bl b => exact kitAny_cons (kit_ty (by decide +kernel) : _ = some false) (fun _ => kitAny_cons (kit_ty (by decide +kernel) : _ = some false) (fun _ => kitAny_nil) (fun z => by cases z)) (fun z => by cases z)
  | int b => exact kitAny_cons (kit_ty (by decide +kernel) : _ = some false) (fun _ => kitAny_cons (kit_ty (by decide +kernel) : _ = some false) (fun _ => kitAny_nil) (fun z => by cases z)) (fun z => by cases z)
  | str b => exact kitAny_cons (kit_ty (by decide +kernel) : _ = some false) (fun _ => kitAny_cons (kit_ty (by decide +kernel) : _ = some false) (fun _ => kitAny_nil) (fun z => by cases z)) (fun z => by cases z)
  | dic b => exact kitAny_cons (kit_ty (by decide +kernel) : _ = some false) (fun _ => kitAny_cons (kit_ty (by decide +kernel) : _ = some false) (fun _ => kitAny_nil) (fun z => by cases z)) (fun z => by cases z)
  | lst b => exact kitAny_cons (kit_ty (by decide +kernel) : _ = some true) (fun z => by cases z) (fun _ => rfl)
  | tup b => exact kitAny_cons (kit_ty (by decide +kernel) : _ = some false) (fun _ => kitAny_cons (kit_ty (by decide +kernel) : _ = some true) (fun z => by cases z) (fun _ => rfl)) (fun z => by cases z)
def isIntB : V → Bool
  | .int _ => true
  | _ => false
def isEndB (v : V) : Bool := inV v [.str "bottom", .str "top"]
def isEndS : V → Bool
  | .str x => isEndB (.str x)
  | _ => false
def isValB (v : V) : Bool := isIntB v || isEndS v
/-- whether one value is not less than another one: as the package says it -/
def geB (x y : V) : Bool := if x = .str "top" ∨ y = .str "bottom" then true else if x = .str "bottom" ∨ y = .str "top" then false else match x, y with
  | .int i, .int j => decide (j ≤ i)
  | _, _ => false
/-! ### the promises of values.py -/
def sp_is_integer : Sp := fun vs H Q _ => ∃ v t, vs = [v] ∧ Kn H v t ∧ Q (.bl (isIntB v)) H
def sp_is_end : Sp := fun vs H Q _ => ∃ v t, vs = [v] ∧ Kn H v t ∧ Q (.bl (isEndS v)) H
def sp_is_list : Sp := fun vs H Q _ => ∃ v t, vs = [v] ∧ Kn H v t ∧ ∀ H', (∀ b o, H b = some o → H' b = some o) → Q (.bl (t == "list" || t == "tuple")) H'
def sp_is_value : Sp := fun vs H Q _ => ∃ v t, vs = [v] ∧ Kn H v t ∧ Q (.bl (isValB v)) H
section
variable {P : Program} {w : World} {K : PySem.W.Frag} {mg : Str → Option Value} {base : Heap} {a : At}
theorem ok_is_integer (T : Txt K mg a) : Fn P w K mg base 1 a.is_integer sp_is_integer := by
  refine T.d_is_integer.fn sc_is_integer (fun _ _ _ _ _ _ us hl => match us, hl with | [_], _ => rfl) (fun vs H Q E h => ?_) (fun cdv A outer s H vs Q E hg hr h => ?_)
  · obtain ⟨_, _, rfl, _⟩ := h
    rfl
  · obtain ⟨v, t, rfl, hk, q⟩ := h
    refine ⟨_, (pss_one (ps_ret (pe_and (pe_callB call_isi (by rfl) T.z_isinstance (by decide +kernel) (pa_cons (pv 0) (pa_cons (pe_ty "int" (by rfl) T.z_int (by decide +kernel)) pa_nil)))
      (pe_one (pe_not (pe_callB call_isi (by rfl) T.z_isinstance (by decide +kernel) (pa_cons (pv 0) (pa_cons (pe_ty "bool" (by rfl) T.z_bool (by decide +kernel)) pa_nil)))))))), ?_⟩
    refine ⟨v, rfl, v, .ty "int", _, _, _, rfl, .ty _, hk.ty, kn_int hk, _, rfl, ?_⟩
    cases hk with
    | int i => exact iteT ⟨_, rfl, _, .ty "bool", _, _, _, rfl, .ty _, (Kn.int i).ty, kn_bool (H := H) (.int i), _, rfl, q⟩
    | bl b => exact iteT ⟨_, rfl, _, .ty "bool", _, _, _, rfl, .ty _, (Kn.bl b).ty, kn_bool (H := H) (.bl b), _, rfl, q⟩
    | _ => exact iteF q
theorem ok_is_end (T : Txt K mg a) : Fn P w K mg base 1 a.is_end sp_is_end := by
  refine T.d_is_end.fn sc_is_end (fun _ _ _ _ _ _ us hl => match us, hl with | [_], _ => rfl) (fun vs H Q E h => ?_) (fun cdv A outer s H vs Q E hg hr h => ?_)
  · obtain ⟨_, _, rfl, _⟩ := h
    rfl
  · obtain ⟨v, t, rfl, hk, q⟩ := h
    refine ⟨_, (pss_one (ps_ret (pe_and (pe_callB call_isi (by rfl) T.z_isinstance (by decide +kernel) (pa_cons (pv 0) (pa_cons (pe_ty "str" (by rfl) T.z_str (by decide +kernel)) pa_nil))) (pe_one (pe_cmpR op_in_seq (pv 0) (pe_glob (v := .ref a.ENDS) rfl T.v_ENDS rfl) (by rfl)))))), ?_⟩
    refine ⟨v, rfl, v, .ty "str", _, _, _, rfl, .ty _, hk.ty, kn_str hk, _, rfl, ?_⟩
    obtain ⟨od, its, n, sl, hl, hv⟩ := T.l_ENDS
    have hz : its.length = 2 := hv.length.symm
    have sq : SqT K H a.ENDS [.str "bottom", .str "top"] := .inr ⟨_, its.toArray, n, hl, rfl, rfl, by rw [List.size_toArray, hz]; decide, by simpa using hv⟩
    cases hk with
    | str x => exact iteT ⟨_, rfl, a.ENDS, _, rfl, .inr sq, rfl, rfl, q⟩
    | _ => exact iteF q
theorem ok_is_list (T : Txt K mg a) : Fn P w K mg base 1 a.is_list sp_is_list := by
  refine T.d_is_list.fn sc_is_list (fun _ _ _ _ _ _ us hl => match us, hl with | [_], _ => rfl) (fun vs H Q E h => ?_) (fun cdv A outer s H vs Q E hg hr h => ?_)
  · obtain ⟨_, _, rfl, _⟩ := h
    rfl
  · obtain ⟨v, t, rfl, hk, q⟩ := h
    refine ⟨_, (pss_one (ps_ret (pe_callB call_isiT (by rfl) T.z_isinstance (by decide +kernel) (pa_cons (pv 0) (pa_cons (pe_tup (pa_cons (pe_ty "list" (by rfl) T.z_list (by decide +kernel)) (pa_cons (pe_ty "tuple" (by rfl) T.z_tuple (by decide +kernel)) pa_nil))) pa_nil))))), ?_⟩
    refine ⟨v, rfl, (by decide : 2 ≤ sizeLine), fun p hp => ?_⟩
    have up : ∀ b o, H b = some o → upd H p (.tup [.ty "list", .ty "tuple"]) b = some o := fun b o e => by rw [upd_ne (ne_of_none e hp)]; exact e
    have hk' : Kn (upd H p (.tup [.ty "list", .ty "tuple"])) v t := by
      cases hk with
      | non => exact .non
      | bl b => exact .bl b
      | int b => exact .int b
      | str b => exact .str b
      | lst h => exact .lst (up _ _ h)
      | tup h => exact .tup (up _ _ h)
      | dic h => exact .dic (up _ _ h)
    exact ⟨v, p, _, _, [.type "list", .type "tuple"], _, rfl, upd_same, .cons (.ty _) (.cons (.ty _) .nil), hk'.ty, kn_list hk', q _ up⟩
theorem ok_is_value (T : Txt K mg a) : Fn P w K mg base 2 a.is_value sp_is_value := by
  have G_is_integer : Fn P w K mg base 1 a.is_integer sp_is_integer := ok_is_integer T
  have G_is_end : Fn P w K mg base 1 a.is_end sp_is_end := ok_is_end T
  refine T.d_is_value.fn sc_is_value (fun _ _ _ _ _ _ us hl => match us, hl with | [_], _ => rfl) (fun vs H Q E h => ?_) (fun cdv A outer s H vs Q E hg hr h => ?_)
  · obtain ⟨_, _, rfl, _⟩ := h
    rfl
  · obtain ⟨v, t, rfl, hk, q⟩ := h
    refine ⟨_, (pss_one (ps_ret (pe_or (pe_fn G_is_integer hg (hr.mono (by decide)) T.d_is_integer.kp T.d_is_integer.m (by rfl) passL (pa_cons (pv 0) pa_nil)) (pe_one (pe_fn G_is_end hg (hr.mono (by decide)) T.d_is_end.kp T.d_is_end.m (by rfl) passL (pa_cons (pv 0) pa_nil)))))), ?_⟩
    refine ⟨v, rfl, v, t, rfl, hk, _, rfl, ?_⟩
    cases e : isIntB v with
    | true =>
      refine iteT ?_
      have e2 : isValB v = true := by unfold isValB; rw [e]; rfl
      rw [e2] at q
      exact q
    | false =>
      refine iteF ⟨v, rfl, v, t, rfl, hk, ?_⟩
      have e2 : isValB v = isEndS v := by unfold isValB; rw [e]; rfl
      rw [e2] at q
      exact q
/-! ### errors -/
def sp_init : Sp := fun vs H Q _ => ∃ (e C : Addr) (v : V), vs = [.ref e, v] ∧ OexC K C ∧ PySem.W.findIn K (.ref C) "value" = some none ∧ H e = some (exo e C none) ∧
  ∀ dx, H dx = none → dx ≠ e → Q .non (upd (upd H dx (exd dx [("value", v)])) e (exo e C (some dx)))
theorem ok_init {fd : FuncData} (F : FunD K "__init__" "HeldError.__init__" (defArgs s_init) (defBody s_init) (defScope s_init) [.non] [] a.init fd) : FnOk P w K mg base CX0 1 a.init fd ["self", "value"] (sp_init (K := K)) := by
  refine F.ok sc_init (fun vs H Q E h => ?_) (fun cdv A outer s H vs Q E hr h => ?_)
  · obtain ⟨_, _, _, rfl, _⟩ := h
    rfl
  · obtain ⟨e, C, v, rfl, oc, hv, he, q⟩ := h
    exact ⟨_, pss_one (ps_ost (pv 0) (pv 1)), v, rfl, .ref e, rfl, e, C, rfl, oc, hv, .inl ⟨he, q⟩⟩
/-- raise X(n), n the name in slot i -/
def tRaiseV (C : Addr) (W : WX) (i : Nat) : TS := fun _ σ H => ∃ v, σ[i]? = some (some v) ∧ ∀ d, H d = none → W (.ref C) (some d) σ (upd H d (.xd [("value", v)]))
theorem made_eq {H1 : Hp} {x d C : Addr} {o u : HO} (hx : H1 x = none) (hd : d ≠ x) (hd1 : H1 d = none) {z : HO} : upd (del (upd (upd (upd H1 x o) d u) x (exo x C (some d))) x) d z = upd H1 d z := by
  funext b
  by_cases h1 : b = d
  · subst h1
    rw [upd_same, upd_same]
  · rw [upd_ne h1, upd_ne h1]
    by_cases h2 : b = x
    · subst h2
      rw [del_same, hx]
    · rw [del_ne h2, upd_ne h2, upd_ne h1, upd_ne h2]
theorem ps_raiseV {X : Cx} {x n : Str} {C : Addr} {W : WX} {i : Nat} {pn p pos pos2 : Pos} {k : Nat} (hc : X.calm = true) (tk : Takes X W) (g : GEx X.K X.mg x C a.init) (ti : PySem.W.typeIn X.K (.ref a.init) = some (.type "function"))
    (di : ∃ fd, FunD X.K "__init__" "HeldError.__init__" (defArgs s_init) (defBody s_init) (defScope s_init) [.non] [] a.init fd) (hr : Room (k + 2) X.A) (hg : Gl X x) (ha : PE X (.Name n pn) (tVar i))
    (hdb : (x == ("__debug__" : Str)) = false := by decide) (he : starEach [.Name n pn] X.env = (false, eval (.Name n pn) X.env) :: starEach [] X.env := by rfl) (hpl : (backTo pos (starEach [] X.env)).any (·.1) = false := by rfl) :
    PS X (.Raise (some (.Call (.Name x p) [.Name n pn] [] pos)) none pos2) (tRaiseV C W i) := by
  obtain ⟨fd, F⟩ := di
  obtain ⟨ds, hv, hb⟩ := F.binds1 (ps := ["self", "value"]) 2 1 (by simp) rfl fun T kV doc pm an cdv ct us its hl hi => match us, its, hl, hi with
    | [_, _], [_], _, _ => ⟨_, rfl, rfl⟩
  cases hv
  have F1 : FnOk X.prog X.w X.K X.mg X.base CX0 1 a.init fd ["self", "value"] (sp_init (K := X.K)) := ok_init F
  have z := ps_raise (pos := pos2) hc tk (pmk_oex (p := p) (pos := pos) g.o g.i ti F1 (hr.mono (by omega)) hb .nil pass0 hg g.m (pa_cons ha pa_nil) hdb he hpl)
  constructor
  intro pins s σ H D I h
  refine z.run pins s σ H D I ?_
  obtain ⟨v, hv, q⟩ := h
  refine ⟨v, hv, (by decide : 1 ≤ 1000), fun x' hx => ⟨x', C, v, rfl, g.o, g.v, upd_same, fun d hd hne => ?_⟩⟩
  have hd1 : H d = none := by
    rw [upd_ne hne] at hd
    exact hd
  refine ⟨rfl, d, [("value", v)], upd_same, ?_, hd1, ?_⟩
  · rw [upd_ne hne, upd_same]
  · show W _ _ _ _
    rw [made_eq hx hne hd1]
    exact q d hd1
end
end K11
namespace K11
open PySem PySem.Spec PyProof.Rows L2 LG Evl
theorem Kn.up {H H' : Hp} {v : V} {t : String} (e : Ex H H') (h : Kn H v t) : Kn H' v t := by
  cases h with
  | non => exact .non
  | bl b => exact .bl b
  | int i => exact .int i
  | str x => exact .str x
  | lst h => exact .lst (e _ _ h)
  | tup h => exact .tup (e _ _ h)
  | dic h => exact .dic (e _ _ h)
theorem isValB_cases {v : V} (h : isValB v = true) : (∃ i, v = .int i) ∨ v = .str "bottom" ∨ v = .str "top" := by
  cases v with
  | int i => exact .inl ⟨i, rfl⟩
  | str x =>
    have h2 : ((Str.ofString "bottom" == x) || ((Str.ofString "top" == x) || false)) = true := h
    rcases (Bool.or_eq_true _ _).mp h2 with h3 | h3
    · exact .inr (.inl (by rw [eq_of_beq h3]))
    · rw [Bool.or_false] at h3
      exact .inr (.inr (by rw [eq_of_beq h3]))
  | _ => exact absurd (show false = true from h) Bool.false_ne_true
theorem bt : ¬ (Str.ofString "bottom" = Str.ofString "top") := by decide +kernel
/-- an error of the class C that bears v, told of any heap in which all stands as before -/
def Errs (C : Addr) (v : V) (H : Hp) (E : XK) : Prop := ∀ d H', Ex H H' → H' d = some (.xd [("value", v)]) → E (.ref C) (some d) H'
theorem Errs.new {C d : Addr} {v : V} {H H1 : Hp} {E : XK} (h : Errs C v H E) (e : Ex H H1) (hd : H1 d = none) : E (.ref C) (some d) (upd H1 d (.xd [("value", v)])) := h d _ (e.trans (Ex.new hd)) upd_same
theorem Errs.up {C : Addr} {v : V} {H H1 : Hp} {E : XK} (h : Errs C v H E) (e : Ex H H1) : Errs C v H1 E := fun d H' e' hd => h d H' (e.trans e') hd
section
variable {P : Program} {w : World} {K : PySem.W.Frag} {mg : Str → Option Value} {base : Heap} {a : At}
def sp_want_value (a : At) : Sp := fun vs H Q E => ∃ v t, vs = [v] ∧ Kn H v t ∧ (isValB v = true → Q .non H) ∧ (isValB v = false → Errs a.c_InvalidValue v H E)
def sp_want_integer (a : At) : Sp := fun vs H Q E => ∃ v t, vs = [v] ∧ Kn H v t ∧ (isIntB v = true → Q .non H) ∧ (isIntB v = false → Errs a.c_InvalidInteger v H E)
theorem ok_want_value (T : Txt K mg a) : Fn P w K mg base 3 a.want_value (sp_want_value a) := by
  have G_is_value : Fn P w K mg base 2 a.is_value sp_is_value := ok_is_value T
  refine T.d_want_value.fn sc_want_value (fun _ _ _ _ _ _ us hl => match us, hl with | [_], _ => rfl) (fun vs H Q E h => ?_) (fun cdv A outer s H vs Q E hg hr h => ?_)
  · obtain ⟨_, _, rfl, _⟩ := h
    rfl
  · obtain ⟨v, t, rfl, hk, q1, q2⟩ := h
    refine ⟨_, (pss_one (ps_if (pt_not (pt_val (pe_fn G_is_value hg (hr.mono (by decide)) T.d_is_value.kp T.d_is_value.m (by rfl) passL (pa_cons (pv 0) pa_nil)))) (pss_one (ps_raiseV (i := 0) (k := 0) rfl takeC T.e_InvalidValue T.ti T.di (hr.mono (by decide)) (by rfl) (pv 0))) pss_nil)), ?_⟩
    refine ⟨v, rfl, v, t, rfl, hk, _, rfl, ?_⟩
    cases e : isValB v with
    | true => exact iteF (q1 e)
    | false => exact iteT ⟨v, rfl, fun d hd => (q2 e).new (Ex.refl H) hd⟩
theorem ok_want_integer (T : Txt K mg a) : Fn P w K mg base 3 a.want_integer (sp_want_integer a) := by
  have G_is_integer : Fn P w K mg base 1 a.is_integer sp_is_integer := ok_is_integer T
  refine T.d_want_integer.fn sc_want_integer (fun _ _ _ _ _ _ us hl => match us, hl with | [_], _ => rfl) (fun vs H Q E h => ?_) (fun cdv A outer s H vs Q E hg hr h => ?_)
  · obtain ⟨_, _, rfl, _⟩ := h
    rfl
  · obtain ⟨v, t, rfl, hk, q1, q2⟩ := h
    refine ⟨_, (pss_one (ps_if (pt_not (pt_val (pe_fn G_is_integer hg (hr.mono (by decide)) T.d_is_integer.kp T.d_is_integer.m (by rfl) passL (pa_cons (pv 0) pa_nil)))) (pss_one (ps_raiseV (i := 0) (k := 0) rfl takeC T.e_InvalidInteger T.ti T.di (hr.mono (by decide)) (by rfl) (pv 0))) pss_nil)), ?_⟩
    refine ⟨v, rfl, v, t, rfl, hk, _, rfl, ?_⟩
    cases e : isIntB v with
    | true => exact iteF (q1 e)
    | false => exact iteT ⟨v, rfl, fun d hd => (q2 e).new (Ex.refl H) hd⟩
/-! ### is_not_less, the least and the greatest -/
def sp_is_not_less : Sp := fun vs H Q _ => ∃ x y, vs = [x, y] ∧ isValB x = true ∧ isValB y = true ∧ Q (.bl (geB x y)) H
theorem scal_str {x : V} {z : Str} (h : isValB x = true) : scal x (.str z) = true := by
  rcases isValB_cases h with ⟨i, rfl⟩ | rfl | rfl <;> rfl
theorem ok_is_not_less (T : Txt K mg a) : Fn P w K mg base 1 a.is_not_less sp_is_not_less := by
  refine T.d_is_not_less.fn sc_is_not_less (fun _ _ _ _ _ _ us hl => match us, hl with | [_, _], _ => rfl) (fun vs H Q E h => ?_) (fun cdv A outer s H vs Q E hg hr h => ?_)
  · obtain ⟨_, _, rfl, _⟩ := h
    rfl
  · obtain ⟨x, y, rfl, hx, hy, q⟩ := h
    refine ⟨_, (pss_cons (ps_if (PW.pt (pw_or (pt_cmpR op_eq (pv 0) (pe_glob (v := .str "top") rfl T.v_TOP ⟨_, rfl⟩) (nomark _)) (pw_or1 (pt_cmpR op_eq (pv 1) (pe_glob (v := .str "bottom") rfl T.v_BOTTOM ⟨_, rfl⟩) (nomark _))))) (pss_one (ps_ret pe_bl)) pss_nil)
      (pss_cons (ps_if (PW.pt (pw_or (pt_cmpR op_eq (pv 0) (pe_glob (v := .str "bottom") rfl T.v_BOTTOM ⟨_, rfl⟩) (nomark _)) (pw_or1 (pt_cmpR op_eq (pv 1) (pe_glob (v := .str "top") rfl T.v_TOP ⟨_, rfl⟩) (nomark _))))) (pss_one (ps_ret pe_bl)) pss_nil)
      (pss_one (ps_ret (pe_cmpR op_ge (pv 0) (pv 1) (nomark _)))))), ?_⟩
    have fin : ∀ b, geB x y = b → Q (.bl b) H := fun b e => e ▸ q
    refine ⟨x, rfl, scal_str hx, _, rfl, ?_⟩
    by_cases h1 : x = .str "top"
    · rw [decide_eq_true h1]
      exact iteT (iteT (fin true (if_pos (.inl h1))))
    · rw [decide_eq_false h1]
      refine iteF ⟨y, rfl, scal_str hy, _, rfl, ?_⟩
      by_cases h2 : y = .str "bottom"
      · rw [decide_eq_true h2]
        exact iteT (fin true (if_pos (.inr h2)))
      · rw [decide_eq_false h2]
        have n1 : ¬ (x = .str "top" ∨ y = .str "bottom") := fun z => z.elim h1 h2
        refine iteF ⟨x, rfl, scal_str hx, _, rfl, ?_⟩
        by_cases h3 : x = .str "bottom"
        · rw [decide_eq_true h3]
          exact iteT (iteT (fin false ((if_neg n1).trans (if_pos (.inl h3)))))
        · rw [decide_eq_false h3]
          refine iteF ⟨y, rfl, scal_str hy, _, rfl, ?_⟩
          by_cases h4 : y = .str "top"
          · rw [decide_eq_true h4]
            exact iteT (fin false ((if_neg n1).trans (if_pos (.inr h4))))
          · rw [decide_eq_false h4]
            have n2 : ¬ (x = .str "bottom" ∨ y = .str "top") := fun z => z.elim h3 h4
            rcases isValB_cases hx with ⟨i, rfl⟩ | z | z
            · rcases isValB_cases hy with ⟨j, rfl⟩ | z | z
              · exact iteF ⟨_, rfl, _, rfl, i, j, rfl, rfl, fin _ ((if_neg n1).trans (if_neg n2))⟩
              · exact absurd z h2
              · exact absurd z h4
            · exact absurd z h3
            · exact absurd z h1
def leastV (xs : List V) : V := xs.foldl (fun f v => if geB f v = true then v else f) (.str "top")
def greatestV (xs : List V) : V := xs.foldl (fun f v => if geB v f = true then v else f) (.str "bottom")
def sp_least_of (K : PySem.W.Frag) : Sp := fun vs H Q _ => ∃ p xs, vs = [.ref p] ∧ SqT K H p xs ∧ (∀ x ∈ xs, isValB x = true) ∧ Q (leastV xs) H
def sp_greatest_of (K : PySem.W.Frag) : Sp := fun vs H Q _ => ∃ p xs, vs = [.ref p] ∧ SqT K H p xs ∧ (∀ x ∈ xs, isValB x = true) ∧ Q (greatestV xs) H
theorem fold_val {f : V → V → Bool} : ∀ (xs : List V) (v : V), isValB v = true → (∀ x ∈ xs, isValB x = true) → isValB (xs.foldl (fun g v => if f g v = true then v else g) v) = true
  | [], _, h, _ => h
  | x :: xs, v, h, hx => by
    rw [List.foldl_cons]
    refine fold_val xs _ ?_ fun y hy => hx y (List.mem_cons_of_mem _ hy)
    by_cases e : f v x = true
    · rw [if_pos e]
      exact hx x List.mem_cons_self
    · rw [if_neg e]
      exact h
theorem take_fold {f : V → V → Bool} {xs : List V} {x : V} {i : Nat} {v : V} (h : xs[i]? = some x) : (xs.take (i + 1)).foldl (fun g v => if f g v = true then v else g) v = (if f ((xs.take i).foldl (fun g v => if f g v = true then v else g) v) x = true then x else (xs.take i).foldl (fun g v => if f g v = true then v else g) v) := by
  rw [List.take_add_one, h, List.foldl_append]
  rfl
theorem ok_least_of (T : Txt K mg a) : Fn P w K mg base 2 a.least_of (sp_least_of K) := by
  have G_is_not_less : Fn P w K mg base 1 a.is_not_less sp_is_not_less := ok_is_not_less T
  refine T.d_least_of.fn sc_least_of (fun _ _ _ _ _ _ us hl => match us, hl with | [_], _ => rfl) (fun vs H Q E h => ?_) (fun cdv A outer s H vs Q E hg hr h => ?_)
  · obtain ⟨_, _, rfl, _⟩ := h
    rfl
  · obtain ⟨p, xs, rfl, hs, hx, q⟩ := h
    have nd := sc_least_of.nd
    refine ⟨_, (pss_cons (ps_set (i := 1) nd rfl (.inl rfl) (pe_glob (v := .str "top") rfl T.v_TOP ⟨_, rfl⟩))
      (pss_cons (ps_for PassesOwn.leaving rfl (pi_tup (pv 0)) (pg_name (i := 2) nd rfl (.inl rfl))
        (pss_one (ps_if (pt_val (pe_fn G_is_not_less hg (hr.mono (by decide)) T.d_is_not_less.kp T.d_is_not_less.m (by rfl) passL (pa_cons (pv 1) (pa_cons (pv 2) pa_nil)))) (pss_one (ps_set (i := 1) nd rfl (.inl rfl) (pv 2))) pss_nil)))
      (pss_one (ps_ret (pv 1))))), ?_⟩
    refine ⟨.ref p, rfl, p, rfl, ⟨xs, hs⟩, for_tup (K := K) (a := p) (xs := xs) (fun i σ H2 => H2 = H ∧ ∃ u, σ = [some (.ref p), some (leastV (xs.take i)), u]) ⟨rfl, none, rfl⟩ (fun i σ H2 _ h => h.1 ▸ hs) ?_ ?_⟩
    · rintro i y σ H2 hi ⟨rfl, u, rfl⟩
      have hv : isValB (leastV (xs.take i)) = true := fold_val _ _ rfl fun z hz => hx z (List.mem_of_mem_take hz)
      refine ⟨_, rfl, y, rfl, _, _, rfl, hv, hx y (List.mem_of_getElem? hi), _, rfl, ?_⟩
      have e0 : leastV (xs.take (i + 1)) = _ := take_fold hi
      cases e : geB (leastV (xs.take i)) y with
      | true =>
        refine iteT ⟨_, rfl, rfl, some y, ?_⟩
        rw [e0]
        exact congrArg (fun z => [some (V.ref p), some z, some y]) (if_pos e).symm
      | false =>
        refine iteF ⟨rfl, some y, ?_⟩
        rw [e0]
        exact congrArg (fun z => [some (V.ref p), some z, some y]) (if_neg (by rw [show geB ((xs.take i).foldl (fun g v => if geB g v = true then v else g) (.str "top")) y = false from e]; exact Bool.false_ne_true)).symm
    · rintro σ H2 ⟨rfl, u, rfl⟩
      rw [List.take_length]
      exact ⟨_, rfl, q⟩
theorem ok_greatest_of (T : Txt K mg a) : Fn P w K mg base 2 a.greatest_of (sp_greatest_of K) := by
  have G_is_not_less : Fn P w K mg base 1 a.is_not_less sp_is_not_less := ok_is_not_less T
  refine T.d_greatest_of.fn sc_greatest_of (fun _ _ _ _ _ _ us hl => match us, hl with | [_], _ => rfl) (fun vs H Q E h => ?_) (fun cdv A outer s H vs Q E hg hr h => ?_)
  · obtain ⟨_, _, rfl, _⟩ := h
    rfl
  · obtain ⟨p, xs, rfl, hs, hx, q⟩ := h
    have nd := sc_greatest_of.nd
    refine ⟨_, (pss_cons (ps_set (i := 1) nd rfl (.inl rfl) (pe_glob (v := .str "bottom") rfl T.v_BOTTOM ⟨_, rfl⟩))
      (pss_cons (ps_for PassesOwn.leaving rfl (pi_tup (pv 0)) (pg_name (i := 2) nd rfl (.inl rfl))
        (pss_one (ps_if (pt_val (pe_fn G_is_not_less hg (hr.mono (by decide)) T.d_is_not_less.kp T.d_is_not_less.m (by rfl) passL (pa_cons (pv 2) (pa_cons (pv 1) pa_nil)))) (pss_one (ps_set (i := 1) nd rfl (.inl rfl) (pv 2))) pss_nil)))
      (pss_one (ps_ret (pv 1))))), ?_⟩
    refine ⟨.ref p, rfl, p, rfl, ⟨xs, hs⟩, for_tup (K := K) (a := p) (xs := xs) (fun i σ H2 => H2 = H ∧ ∃ u, σ = [some (.ref p), some (greatestV (xs.take i)), u]) ⟨rfl, none, rfl⟩ (fun i σ H2 _ h => h.1 ▸ hs) ?_ ?_⟩
    · rintro i y σ H2 hi ⟨rfl, u, rfl⟩
      have hv : isValB (greatestV (xs.take i)) = true := fold_val (f := fun g v => geB v g) _ _ rfl fun z hz => hx z (List.mem_of_mem_take hz)
      refine ⟨y, rfl, _, rfl, _, _, rfl, hx y (List.mem_of_getElem? hi), hv, _, rfl, ?_⟩
      have e0 : greatestV (xs.take (i + 1)) = _ := take_fold (f := fun g v => geB v g) hi
      cases e : geB y (greatestV (xs.take i)) with
      | true =>
        refine iteT ⟨_, rfl, rfl, some y, ?_⟩
        rw [e0]
        exact congrArg (fun z => [some (V.ref p), some z, some y]) (if_pos e).symm
      | false =>
        refine iteF ⟨rfl, some y, ?_⟩
        rw [e0]
        exact congrArg (fun z => [some (V.ref p), some z, some y]) (if_neg (by rw [show geB y ((xs.take i).foldl (fun g v => if geB v g = true then v else g) (.str "bottom")) = false from e]; exact Bool.false_ne_true)).symm
    · rintro σ H2 ⟨rfl, u, rfl⟩
      rw [List.take_length]
      exact ⟨_, rfl, q⟩
end
end K11
namespace K11
open PySem PySem.Spec PyProof.Rows L2 LG Evl
/-- the END that a value is at a level -/
def atV (x : V) (r : V) : V := if geB x r = true then .str "top" else .str "bottom"
section
variable {P : Program} {w : World} {K : PySem.W.Frag} {mg : Str → Option Value} {base : Heap} {a : At}
def sp_end_at : Sp := fun vs H Q _ => ∃ x r, vs = [x, r] ∧ isValB x = true ∧ isValB r = true ∧ Q (atV x r) H
theorem ok_end_at (T : Txt K mg a) : Fn P w K mg base 2 a.end_at sp_end_at := by
  have G_is_not_less : Fn P w K mg base 1 a.is_not_less sp_is_not_less := ok_is_not_less T
  refine T.d_end_at.fn sc_end_at (fun _ _ _ _ _ _ us hl => match us, hl with | [_, _], _ => rfl) (fun vs H Q E h => ?_) (fun cdv A outer s H vs Q E hg hr h => ?_)
  · obtain ⟨_, _, rfl, _⟩ := h
    rfl
  · obtain ⟨x, r, rfl, hx, hr', q⟩ := h
    refine ⟨_, (pss_one (ps_ret (pe_ifExp (pt_val (pe_fn G_is_not_less hg (hr.mono (by decide)) T.d_is_not_less.kp T.d_is_not_less.m (by rfl) passL (pa_cons (pv 0) (pa_cons (pv 1) pa_nil)))) (pe_glob (v := .str "top") rfl T.v_TOP ⟨_, rfl⟩) (pe_glob (v := .str "bottom") rfl T.v_BOTTOM ⟨_, rfl⟩)))), ?_⟩
    refine ⟨x, rfl, r, rfl, x, r, rfl, hx, hr', _, rfl, ?_⟩
    by_cases e : geB x r = true
    · have q' : Q (.str "top") H := (if_pos e : atV x r = _) ▸ q
      rw [e]
      exact iteT q'
    · have q' : Q (.str "bottom") H := (if_neg e : atV x r = _) ▸ q
      rw [Bool.eq_false_iff.mpr e]
      exact iteF q'
def sp_is_at_least (a : At) : Sp := fun vs H Q E => ∃ x y t u, vs = [x, y] ∧ Kn H x t ∧ Kn H y u ∧ (isValB x = true → isValB y = true → Q (.bl (geB x y)) H) ∧
  (isValB x = false → Errs a.c_InvalidValue x H E) ∧ (isValB x = true → isValB y = false → Errs a.c_InvalidValue y H E)
theorem ok_is_at_least (T : Txt K mg a) : Fn P w K mg base 4 a.is_at_least (sp_is_at_least a) := by
  have G_want_value : Fn P w K mg base 3 a.want_value (sp_want_value a) := ok_want_value T
  have G_is_not_less : Fn P w K mg base 1 a.is_not_less sp_is_not_less := ok_is_not_less T
  refine T.d_is_at_least.fn sc_is_at_least (fun _ _ _ _ _ _ us hl => match us, hl with | [_, _], _ => rfl) (fun vs H Q E h => ?_) (fun cdv A outer s H vs Q E hg hr h => ?_)
  · obtain ⟨_, _, _, _, rfl, _⟩ := h
    rfl
  · obtain ⟨x, y, t, u, rfl, kx, ky, q1, q2, q3⟩ := h
    refine ⟨_, (pss_cons (ps_expr (pe_fn G_want_value hg (hr.mono (by decide)) T.d_want_value.kp T.d_want_value.m (by rfl) passC (pa_cons (pv 0) pa_nil)))
      (pss_cons (ps_expr (pe_fn G_want_value hg (hr.mono (by decide)) T.d_want_value.kp T.d_want_value.m (by rfl) passC (pa_cons (pv 1) pa_nil)))
      (pss_one (ps_ret (pe_fn G_is_not_less hg (hr.mono (by decide)) T.d_is_not_less.kp T.d_is_not_less.m (by rfl) passL (pa_cons (pv 0) (pa_cons (pv 1) pa_nil))))))), ?_⟩
    refine ⟨x, rfl, x, t, rfl, kx, fun ex => ?_, q2⟩
    refine ⟨y, rfl, y, u, rfl, ky, fun ey => ?_, q3 ex⟩
    exact ⟨x, rfl, y, rfl, x, y, rfl, ex, ey, q1 ex ey⟩
/-! ### lesser_of, greater_of -/
def sp_extreme (f : List V → V) (a : At) (vs : List V) (H : Hp) (Q : VK) (E : XK) : Prop := (∀ v ∈ vs, ∃ t, Kn H v t) ∧ vs.length ≤ 1000 ∧ ((∀ v ∈ vs, isValB v = true) → ∀ H', Ex H H' → Q (f vs) H') ∧
  (∀ (i : Nat) (x : V), vs[i]? = some x → (∀ j y, j < i → vs[j]? = some y → isValB y = true) → isValB x = false → Errs a.c_InvalidValue x H E)
theorem sz1000 {n : Nat} (h : n ≤ 1000) : n ≤ sizeLine := Nat.le_trans h (by decide)
theorem ok_lesser_of (T : Txt K mg a) : Fn P w K mg base 4 a.lesser_of (sp_extreme leastV a) := by
  have G_want_value : Fn P w K mg base 3 a.want_value (sp_want_value a) := ok_want_value T
  have G_least_of : Fn P w K mg base 2 a.least_of (sp_least_of K) := ok_least_of T
  obtain ⟨fd, F⟩ := T.d_lesser_of.F
  have z := Fn.ofStar (P := P) (w := w) (mg := mg) (base := base) (k := 3) (sp := fun vs H Q E => ∃ p xs, vs = [V.ref p] ∧ H p = some (.tup xs) ∧ (∀ v ∈ xs, ∃ t, Kn H v t) ∧ ((∀ v ∈ xs, isValB v = true) → Q (leastV xs) H) ∧
      (∀ (i : Nat) (x : V), xs[i]? = some x → (∀ j y, j < i → xs[j]? = some y → isValB y = true) → isValB x = false → Errs a.c_InvalidValue x H E)) F sc_lesser_of (fun us => ?_) (fun cdv A outer s H vs Q E hg hr h => ?_)
  · refine z.imp fun vs H Q E h => ?_
    obtain ⟨kn, hl, q1, q2⟩ := h
    refine ⟨sz1000 hl, fun p hp => ⟨p, vs, rfl, upd_same, fun v hv => ?_, fun hv => q1 hv _ (Ex.new hp), fun i x hi hb hx => (q2 i x hi hb hx).up (Ex.new hp)⟩⟩
    obtain ⟨t, ht⟩ := kn v hv
    exact ⟨t, ht.up (Ex.new hp)⟩
  · obtain ⟨oc, od, kV, doc, pm, an, cdv, ct, osl, rfl, _, _⟩ := F.ex
    cases us <;> rfl
  · obtain ⟨p, xs, rfl, hp, kn, q1, q2⟩ := h
    have nd := sc_lesser_of.nd
    refine ⟨_, (pss_cons (ps_for PassesOwn.leaving rfl (pi_tup (pv 0)) (pg_name (i := 1) nd rfl (.inl rfl))
        (pss_one (ps_expr (pe_fn G_want_value hg (hr.mono (by decide)) T.d_want_value.kp T.d_want_value.m (by rfl) passC (pa_cons (pv 1) pa_nil)))))
      (pss_one (ps_ret (pe_fn G_least_of hg (hr.mono (by decide)) T.d_least_of.kp T.d_least_of.m (by rfl) passL (pa_cons (pv 0) pa_nil))))), ?_⟩
    have hs : SqT K H p xs := .inl (.inl hp)
    refine ⟨.ref p, rfl, p, rfl, ⟨xs, hs⟩, for_tup (K := K) (a := p) (xs := xs) (fun i σ H2 => H2 = H ∧ (∀ j y, j < i → xs[j]? = some y → isValB y = true) ∧ ∃ u, σ = [some (.ref p), u]) ⟨rfl, fun j y hj => absurd hj (Nat.not_lt_zero _), none, rfl⟩ (fun i σ H2 _ h => h.1 ▸ hs) ?_ ?_⟩
    · rintro i y σ H2 hi ⟨rfl, hb, u, rfl⟩
      obtain ⟨t, ht⟩ := kn y (List.mem_of_getElem? hi)
      refine ⟨y, rfl, y, t, rfl, ht, fun ey => ⟨rfl, fun j z hj hz => ?_, some y, rfl⟩, q2 i y hi hb⟩
      rcases Nat.lt_succ_iff_lt_or_eq.mp hj with h | rfl
      · exact hb j z h hz
      · rw [hi] at hz
        cases hz
        exact ey
    · rintro σ H2 ⟨rfl, hb, u, rfl⟩
      have all : ∀ v ∈ xs, isValB v = true := fun v hv => by
        obtain ⟨j, hj, e⟩ := List.getElem_of_mem hv
        exact hb j v hj (by rw [List.getElem?_eq_getElem hj, e])
      exact ⟨_, rfl, p, xs, rfl, hs, all, q1 all⟩
theorem ok_greater_of (T : Txt K mg a) : Fn P w K mg base 4 a.greater_of (sp_extreme greatestV a) := by
  have G_want_value : Fn P w K mg base 3 a.want_value (sp_want_value a) := ok_want_value T
  have G_greatest_of : Fn P w K mg base 2 a.greatest_of (sp_greatest_of K) := ok_greatest_of T
  obtain ⟨fd, F⟩ := T.d_greater_of.F
  have z := Fn.ofStar (P := P) (w := w) (mg := mg) (base := base) (k := 3) (sp := fun vs H Q E => ∃ p xs, vs = [V.ref p] ∧ H p = some (.tup xs) ∧ (∀ v ∈ xs, ∃ t, Kn H v t) ∧ ((∀ v ∈ xs, isValB v = true) → Q (greatestV xs) H) ∧
      (∀ (i : Nat) (x : V), xs[i]? = some x → (∀ j y, j < i → xs[j]? = some y → isValB y = true) → isValB x = false → Errs a.c_InvalidValue x H E)) F sc_greater_of (fun us => ?_) (fun cdv A outer s H vs Q E hg hr h => ?_)
  · refine z.imp fun vs H Q E h => ?_
    obtain ⟨kn, hl, q1, q2⟩ := h
    refine ⟨sz1000 hl, fun p hp => ⟨p, vs, rfl, upd_same, fun v hv => ?_, fun hv => q1 hv _ (Ex.new hp), fun i x hi hb hx => (q2 i x hi hb hx).up (Ex.new hp)⟩⟩
    obtain ⟨t, ht⟩ := kn v hv
    exact ⟨t, ht.up (Ex.new hp)⟩
  · obtain ⟨oc, od, kV, doc, pm, an, cdv, ct, osl, rfl, _, _⟩ := F.ex
    cases us <;> rfl
  · obtain ⟨p, xs, rfl, hp, kn, q1, q2⟩ := h
    have nd := sc_greater_of.nd
    refine ⟨_, (pss_cons (ps_for PassesOwn.leaving rfl (pi_tup (pv 0)) (pg_name (i := 1) nd rfl (.inl rfl))
        (pss_one (ps_expr (pe_fn G_want_value hg (hr.mono (by decide)) T.d_want_value.kp T.d_want_value.m (by rfl) passC (pa_cons (pv 1) pa_nil)))))
      (pss_one (ps_ret (pe_fn G_greatest_of hg (hr.mono (by decide)) T.d_greatest_of.kp T.d_greatest_of.m (by rfl) passL (pa_cons (pv 0) pa_nil))))), ?_⟩
    have hs : SqT K H p xs := .inl (.inl hp)
    refine ⟨.ref p, rfl, p, rfl, ⟨xs, hs⟩, for_tup (K := K) (a := p) (xs := xs) (fun i σ H2 => H2 = H ∧ (∀ j y, j < i → xs[j]? = some y → isValB y = true) ∧ ∃ u, σ = [some (.ref p), u]) ⟨rfl, fun j y hj => absurd hj (Nat.not_lt_zero _), none, rfl⟩ (fun i σ H2 _ h => h.1 ▸ hs) ?_ ?_⟩
    · rintro i y σ H2 hi ⟨rfl, hb, u, rfl⟩
      obtain ⟨t, ht⟩ := kn y (List.mem_of_getElem? hi)
      refine ⟨y, rfl, y, t, rfl, ht, fun ey => ⟨rfl, fun j z hj hz => ?_, some y, rfl⟩, q2 i y hi hb⟩
      rcases Nat.lt_succ_iff_lt_or_eq.mp hj with h | rfl
      · exact hb j z h hz
      · rw [hi] at hz
        cases hz
        exact ey
    · rintro σ H2 ⟨rfl, hb, u, rfl⟩
      have all : ∀ v ∈ xs, isValB v = true := fun v hv => by
        obtain ⟨j, hj, e⟩ := List.getElem_of_mem hv
        exact hb j v hj (by rw [List.getElem?_eq_getElem hj, e])
      exact ⟨_, rfl, p, xs, rfl, hs, all, q1 all⟩
/-! ### at_level -/
def sp_at_level (a : At) : Sp := fun vs H Q E => ∃ x r t u, vs = [x, r] ∧ Kn H x t ∧ Kn H r u ∧ (isValB x = true → isIntB r = true → Q (atV x r) H) ∧
  (isValB x = false → Errs a.c_InvalidValue x H E) ∧ (isValB x = true → isIntB r = false → Errs a.c_InvalidInteger r H E)
theorem okB_at_level (T : Txt K mg a) : ∃ fd, FnB P w K mg base 4 a.at_level fd ["value", "level"] (sp_at_level a) ∧ Fun K "at_level" "at_level" s_at_level a.at_level fd := by
  have G_want_value : Fn P w K mg base 3 a.want_value (sp_want_value a) := ok_want_value T
  have G_want_integer : Fn P w K mg base 3 a.want_integer (sp_want_integer a) := ok_want_integer T
  have G_end_at : Fn P w K mg base 2 a.end_at sp_end_at := ok_end_at T
  obtain ⟨fd, F⟩ := T.d_at_level.F
  refine ⟨fd, FnB.of F sc_at_level fun cdv A outer s H vs Q E hg hr h => ?_, F⟩
  obtain ⟨x, r, t, u, rfl, kx, kr, q1, q2, q3⟩ := h
  refine ⟨_, (pss_cons (ps_expr (pe_fn G_want_value hg (hr.mono (by decide)) T.d_want_value.kp T.d_want_value.m (by rfl) passC (pa_cons (pv 0) pa_nil)))
    (pss_cons (ps_expr (pe_fn G_want_integer hg (hr.mono (by decide)) T.d_want_integer.kp T.d_want_integer.m (by rfl) passC (pa_cons (pv 1) pa_nil)))
    (pss_one (ps_ret (pe_fn G_end_at hg (hr.mono (by decide)) T.d_end_at.kp T.d_end_at.m (by rfl) passL (pa_cons (pv 0) (pa_cons (pv 1) pa_nil))))))), ?_⟩
  refine ⟨x, rfl, x, t, rfl, kx, fun ex => ?_, q2⟩
  refine ⟨r, rfl, r, u, rfl, kr, fun er => ?_, q3 ex⟩
  have er' : isValB r = true := by
    unfold isValB
    rw [er]
    rfl
  exact ⟨x, rfl, r, rfl, x, r, rfl, ex, er', q1 ex er⟩
theorem ok_at_level (T : Txt K mg a) : Fn P w K mg base 4 a.at_level (sp_at_level a) := by
  obtain ⟨fd, B, F⟩ := okB_at_level (P := P) (w := w) (base := base) T
  refine B.fn (F.binds fun _ _ _ _ _ _ us hl => match us, hl with | [_, _], _ => rfl) fun vs H Q E h => ?_
  obtain ⟨_, _, _, _, rfl, _⟩ := h
  rfl
/-! ### the integers of a list -/
/-- a new list at r: the different integers of xs, the greatest first -/
def Desc (xs : List V) (ns : List Int) : Prop := ns.Pairwise (fun x y => y < x) ∧ ∀ k : Int, k ∈ ns ↔ V.int k ∈ xs
def sp_integers_in (K : PySem.W.Frag) : Sp := fun vs H Q _ => ∃ p xs, vs = [.ref p] ∧ (SqL K H p xs ∨ SqT K H p xs) ∧ (∀ v ∈ xs, ∃ t, Kn H v t) ∧ xs.length ≤ 40 ∧
  ∀ (ns : List Int) (r : Addr) (H' : Hp), Desc xs ns → H r = none → Ex H H' → H' r = some (.lst (ns.map V.int)) → Q (.ref r) H'
theorem desc_of {xs : List V} {ns : List Int} {S : Int → Bool} (h1 : ns.Pairwise (· < ·)) (h2 : ∀ k : Int, k ∈ ns ↔ S k = true) (h3 : ∀ k : Int, S k = true ↔ V.int k ∈ xs) : Desc xs ns.reverse :=
  ⟨List.pairwise_reverse.mpr h1, fun k => List.mem_reverse.trans ((h2 k).trans (h3 k))⟩
/-- one more member -/
theorem memb_step {S : Int → Bool} {xs : List V} {i : Nat} {x : V} (hi : xs[i]? = some x) (h : ∀ k : Int, S k = true ↔ V.int k ∈ xs.take i) : 
    (∀ c : Int, x = .int c → ∀ k : Int, (S k || decide (k = c)) = true ↔ V.int k ∈ xs.take (i + 1)) ∧ (isIntB x = false → ∀ k : Int, S k = true ↔ V.int k ∈ xs.take (i + 1)) := by
  have e : xs.take (i + 1) = xs.take i ++ [x] := by
    rw [List.take_add_one, hi]
    rfl
  refine ⟨fun c ec k => ?_, fun hx k => ?_⟩
  · rw [e, List.mem_append, Bool.or_eq_true, h k, ec, List.mem_singleton, decide_eq_true_eq]
    exact or_congr Iff.rfl ⟨fun z => by rw [z], fun z => V.int.inj z⟩
  · rw [e, List.mem_append, h k]
    refine ⟨.inl, fun z => z.elim id fun z2 => ?_⟩
    rw [← List.mem_singleton.mp z2] at hx
    cases hx
theorem ok_integers_in (T : Txt K mg a) : Fn P w K mg base 2 a.integers_in (sp_integers_in K) := by
  have G_is_integer : Fn P w K mg base 1 a.is_integer sp_is_integer := ok_is_integer T
  refine T.d_integers_in.fn sc_integers_in (fun _ _ _ _ _ _ us hl => match us, hl with | [_], _ => rfl) (fun vs H Q E h => ?_) (fun cdv A outer s H vs Q E hg hr h => ?_)
  · obtain ⟨_, _, rfl, _⟩ := h
    rfl
  · obtain ⟨p, xs, rfl, hs, kn, hlen, q⟩ := h
    have nd := sc_integers_in.nd
    -- the set D holds the integers of what was taken so far
    let Pv : Addr → Nat → Hp → Prop := fun D i H2 => Ex H H2 ∧ ∃ (S : Int → Bool) (n : Nat), H2 D = some (SetO w D S n) ∧ n ≤ i ∧ ∀ k : Int, S k = true ↔ V.int k ∈ xs.take i
    have start0 : ∀ D, H D = none → Pv D 0 (upd H D (SetO w D (fun _ => false) 0)) := fun D hD => ⟨Ex.new hD, _, 0, upd_same, Nat.le_refl 0, fun k => by simp⟩
    have turn : ∀ (D : Addr) (hD : H D = none) (i : Nat) (x : V) (H2 : Hp), xs[i]? = some x → Pv D i H2 → ∀ (S : Int → Bool) (n : Nat), H2 D = some (SetO w D S n) → isIntB x = true →
        ∃ (c : Int) (S : Int → Bool) (n : Nat), x = V.int c ∧ H2 D = some (SetO w D S n) ∧ n + 1 < scanBound ∧ Pv D (i + 1) (upd H2 D (SetO w D (fun j => S j || decide (j = c)) (if S c = true then n else n + 1))) := by
      intro D hD i x H2 hi ⟨ex, S, n, hS, hn, hm⟩ _ _ _ hx
      have hil := (List.getElem?_eq_some_iff.mp hi).1
      cases x with
      | int c =>
        refine ⟨c, S, n, rfl, hS, by unfold scanBound; omega, ex.mut hD, _, _, upd_same, ?_, (memb_step hi hm).1 c rfl⟩
        split <;> omega
      | _ => cases hx
    have fin : ∀ (D : Addr) (H2 : Hp), H D = none → Pv D xs.length H2 → ∃ (b : Addr) (S : Int → Bool) (n : Nat), [V.ref D] = [V.ref b] ∧ H2 b = some (SetO w b S n) ∧ n < 64 ∧ ∀ (ns : List Int) (p : Addr), ns.Pairwise (· < ·) → (∀ k : Int, k ∈ ns ↔ S k = true) → ns.length = n → H2 p = none →
        ∃ (b : Addr) (ys : List V), V.ref p = .ref b ∧ SqL K (upd H2 p (.lst (ns.map V.int))) b ys ∧ ∀ r, upd H2 p (.lst (ns.map V.int)) r = none → Q (.ref r) (upd (upd H2 p (.lst (ns.map V.int))) r (.lst ys.reverse)) := by
      intro D H2 hD ⟨ex, S, n, hS, hn, hm⟩
      rw [List.take_length] at hm
      refine ⟨D, S, n, rfl, hS, by omega, fun ns p2 h1 h2 h3 hp => ⟨p2, _, rfl, sq_of upd_same, fun r hr => ?_⟩⟩
      have e1 : Ex H (upd H2 p2 (.lst (ns.map V.int))) := ex.trans (Ex.new hp)
      refine q ns.reverse r _ (desc_of h1 h2 hm) (fresh_back e1 hr) (e1.trans (Ex.new hr)) ?_
      rw [upd_same, List.map_reverse]
    have knx : ∀ (i : Nat) (x : V) (H2 : Hp), xs[i]? = some x → Ex H H2 → ∃ t, Kn H2 x t := fun i x H2 hi e => let ⟨t, ht⟩ := kn x (List.mem_of_getElem? hi); ⟨t, ht.up e⟩
    rcases hs with hs | hs
    · refine ⟨_, (pss_one (ps_ret (pe_revL (pe_callB (cr_sortedSet rfl) (by rfl) T.z_sorted (by decide +kernel) (pa_cons (pe_scK setI rfl (own := [("value", 1)]) (g := gName 1) (by exact nd) (pi_list (pv 0)) (blkOk_by (own := [("value", 1)]) (N := ["values", "value"]) (sc := defScope s_integers_in) (by decide +kernel)) (fun _ _ _ _ _ => (pg_name (i := 1) nd rfl (.inl rfl)))
        (fun _ _ _ _ _ => (pts_one (pt_val (pe_fn G_is_integer hg (hr.mono (by decide)) T.d_is_integer.kp T.d_is_integer.m (by rfl) passL (pa_cons (pv 1) pa_nil))))) (fun _ _ _ _ _ => (pv 1))) pa_nil))))), ?_⟩
      refine ⟨.ref p, rfl, p, rfl, ⟨xs, hs⟩, fun D hD => sc_list setI (K := K) (a := p) (xs := xs) (Pv D) (start0 D hD) (fun i H2 _ h => ex_l h.1 hs) (fun i x H2 hi h => ?_) (fun H2 h => fin D H2 hD h)⟩
      obtain ⟨t, ht⟩ := knx i x H2 hi h.1
      refine ⟨rfl, x, rfl, x, t, rfl, ht, _, rfl, ?_⟩
      obtain ⟨ex, S, n, hS, hn, hm⟩ := id h
      cases e : isIntB x with
      | true => exact iteT ⟨x, rfl, turn D hD i x H2 hi h S n hS e⟩
      | false => exact iteF ⟨ex, S, n, hS, by omega, (memb_step hi hm).2 e⟩
    · refine ⟨_, (pss_one (ps_ret (pe_revL (pe_callB (cr_sortedSet rfl) (by rfl) T.z_sorted (by decide +kernel) (pa_cons (pe_scK setI rfl (own := [("value", 1)]) (g := gName 1) (by exact nd) (pi_tup (pv 0)) (blkOk_by (own := [("value", 1)]) (N := ["values", "value"]) (sc := defScope s_integers_in) (by decide +kernel)) (fun _ _ _ _ _ => (pg_name (i := 1) nd rfl (.inl rfl)))
        (fun _ _ _ _ _ => (pts_one (pt_val (pe_fn G_is_integer hg (hr.mono (by decide)) T.d_is_integer.kp T.d_is_integer.m (by rfl) passL (pa_cons (pv 1) pa_nil))))) (fun _ _ _ _ _ => (pv 1))) pa_nil))))), ?_⟩
      refine ⟨.ref p, rfl, p, rfl, ⟨xs, hs⟩, fun D hD => sc_tupK setI (K := K) (a := p) (xs := xs) (Pv D) (start0 D hD) (fun i H2 _ h => ex_t h.1 hs) (fun i x H2 hi h => ?_) (fun H2 h => fin D H2 hD h)⟩
      obtain ⟨t, ht⟩ := knx i x H2 hi h.1
      refine ⟨rfl, x, rfl, x, t, rfl, ht, _, rfl, ?_⟩
      obtain ⟨ex, S, n, hS, hn, hm⟩ := id h
      cases e : isIntB x with
      | true => exact iteT ⟨x, rfl, turn D hD i x H2 hi h S n hS e⟩
      | false => exact iteF ⟨ex, S, n, hS, by omega, (memb_step hi hm).2 e⟩
end
end K11
namespace K11
open PySem PySem.Spec PyProof.Rows L2 LG Evl
/-- over a tuple -/
theorem el_lcT {K : PySem.W.Frag} {σ : L2.St} {H : Hp} {te : TE} {t : TT} {a : Addr} {xs : List V} {tl : TE} {j : Nat} {vs : List Nat} (f : Nat → Bool) (v : Nat → V) (h : Ev tl σ H (.ref a)) (hx : SqT K H a xs) (hz : xs.length ≤ 40000) (hw : ∀ x, wipe ((wipe σ vs).set j (some x)) vs = wipe σ vs)
    (ht : ∀ (i : Nat) (x : V) H1, Ex H H1 → xs[i]? = some x → EvT t ((wipe σ vs).set j (some x)) H1 (f i)) (he : ∀ (i : Nat) (x : V) H1, Ex H H1 → xs[i]? = some x → f i = true → Ev te ((wipe σ vs).set j (some x)) H1 (v i)) :
    EvL (tLc (iTup K tl) (gName j) t te vs) σ H (given xs.length f v) := fun H0 e Q q => h H0 e _ fun H1 e1 => ⟨a, rfl, ⟨xs, ex_t (e.trans e1) hx⟩, fun Dl hD =>
  lc_tup (xs := xs) (Cw H1 f v Dl) ⟨hD, Ex.new hD, upd_same⟩ (fun i H' _ p => ex_t ((e.trans e1).trans p.2.1) hx) (fun i x H' hi p => ⟨hw x, cw_turn p (by have := (List.getElem?_eq_some_iff.mp hi).1; omega) (ht i x H1 (e.trans e1) hi) (fun hf => he i x H1 (e.trans e1) hi hf)⟩)
    (fun H' p => q Dl H' (fresh_back e1 p.1) (e1.trans p.2.1) p.2.2)⟩
theorem given_all {α : Type} {xs : List V} {f : V → α} {g : α → V} {d : V} : given xs.length (fun _ => true) (fun i => g (f (xs.getD i d))) = (xs.map f).map g := by
  unfold given
  rw [List.filter_eq_self.mpr (by simp), List.map_map]
  apply List.ext_getElem
  · simp
  · intro i h1 h2
    have h3 : i < xs.length := by simpa using h1
    simp [List.getD_eq_getElem?_getD, List.getElem?_eq_getElem h3]
theorem ev_all {K : PySem.W.Frag} {σ : L2.St} {H : Hp} {te : TE} {bs : List Bool} (h : EvL te σ H (bs.map V.bl)) : Ev (tCB (rAll K) (tCons te tNil)) σ H (.bl (bs.all id)) := fun H1 e Q q => h H1 e _ fun p H2 _ e2 h2 => ⟨p, bs, rfl, sq_of h2, q H2 e2⟩
theorem et_true {σ : L2.St} {H : Hp} {t : TT} (h : ∀ (H1 : Hp) (Q : Bool → Hp → Prop), Q true H1 → t σ H1 Q) : EvT t σ H true := fun H1 _ Q q => h H1 Q (q H1 (Ex.refl H1))
section
variable {P : Program} {w : World} {K : PySem.W.Frag} {mg : Str → Option Value} {base : Heap} {a : At}
def sp_levels_of (a : At) : Sp := fun vs H Q E => ∃ v t, vs = [v] ∧ Kn H v t ∧ ((t == "list" || t == "tuple") = false → Errs a.c_InvalidValues v H E) ∧
  (∀ p xs, v = .ref p → (H p = some (.lst xs) ∨ H p = some (.tup xs)) → (∀ x ∈ xs, ∃ t, Kn H x t) ∧ xs.length ≤ 40 ∧
    ((∀ x ∈ xs, isValB x = true) → ∀ (ns : List Int) (r : Addr) (H' : Hp), Desc xs ns → H r = none → Ex H H' → H' r = some (.lst (ns.map V.int)) → Q (.ref r) H') ∧ ((∃ x ∈ xs, isValB x = false) → Errs a.c_InvalidValues v H E))
theorem ok_levels_of (T : Txt K mg a) : Fn P w K mg base 4 a.levels_of (sp_levels_of a) := by
  have G_is_list : Fn P w K mg base 1 a.is_list sp_is_list := ok_is_list T
  have G_is_value : Fn P w K mg base 2 a.is_value sp_is_value := ok_is_value T
  have G_integers_in : Fn P w K mg base 2 a.integers_in (sp_integers_in K) := ok_integers_in T
  refine T.d_levels_of.fn sc_levels_of (fun _ _ _ _ _ _ us hl => match us, hl with | [_], _ => rfl) (fun vs H Q E h => ?_) (fun cdv A outer s H vs Q E hg hr h => ?_)
  · obtain ⟨_, _, rfl, _⟩ := h
    rfl
  · obtain ⟨v, t, rfl, hk, q1, q2⟩ := h
    have nd := sc_levels_of.nd
    have notSeq : (t == "list" || t == "tuple") = false → ∃ t, PSs (cxOf (L2.CX P w) P w K mg base ["values", "value"] "levels_of" (defScope s_levels_of) a.levels_of cdv A outer s H E) (defBody s_levels_of) t ∧ t { nx := fun _ H' => Q .non H', rt := Q } (start ["values", "value"] [v]) H := by
      intro hl
      refine ⟨_, (pss_cons (ps_if (PW.pt (pw_or (pt_not (pt_val (pe_fn G_is_list hg (hr.mono (by decide)) T.d_is_list.kp T.d_is_list.m (by rfl) passL (pa_cons (pv 0) pa_nil)))) (pw_or1 (pt_not (pt_val (pe_callB (cr_all rfl) (by rfl) T.z_all (by decide +kernel) (pa_cons (pe_lc rfl (own := [("value", 1)]) (g := gName 1) (by exact nd) (pi_list (pv 0)) (blkOk_by (own := [("value", 1)]) (N := ["values", "value"]) (sc := defScope s_levels_of) (by decide +kernel)) (fun _ _ _ _ _ => (pg_name (i := 1) nd rfl (.inl rfl))) (fun _ _ _ _ _ => pts_nil) (fun _ _ _ _ _ => (pe_fn G_is_value hg (hr.mono (by decide)) T.d_is_value.kp T.d_is_value.m (by rfl) passL (pa_cons (pv 1) pa_nil)))) pa_nil))))))) (pss_one (ps_raiseV (i := 0) (k := 0) rfl takeC T.e_InvalidValues T.ti T.di (hr.mono (by decide)) (by rfl) (pv 0))) pss_nil)
      (pss_one (ps_ret (pe_fn G_integers_in hg (hr.mono (by decide)) T.d_integers_in.kp T.d_integers_in.m (by rfl) passL (pa_cons (pv 0) pa_nil))))), ?_⟩
      refine ⟨v, rfl, v, t, rfl, hk, fun H1 e1 => ⟨_, rfl, ?_⟩⟩
      rw [hl]
      exact iteT (iteT ⟨v, rfl, fun d hd => (q1 hl).new e1 hd⟩)
    cases hk with
    | non => exact notSeq (by decide)
    | bl b => exact notSeq (by decide)
    | int b => exact notSeq (by decide)
    | str b => exact notSeq (by decide)
    | dic b => exact notSeq (by decide)
    | @lst p xs hp =>
      obtain ⟨kn, hlen, q3, q4⟩ := q2 p xs rfl (.inl hp)
      refine ⟨_, (pss_cons (ps_if (PW.pt (pw_or (pt_not (pt_val (pe_fn G_is_list hg (hr.mono (by decide)) T.d_is_list.kp T.d_is_list.m (by rfl) passL (pa_cons (pv 0) pa_nil)))) (pw_or1 (pt_not (pt_val (pe_callB (cr_all rfl) (by rfl) T.z_all (by decide +kernel) (pa_cons (pe_lc rfl (own := [("value", 1)]) (g := gName 1) (by exact nd) (pi_list (pv 0)) (blkOk_by (own := [("value", 1)]) (N := ["values", "value"]) (sc := defScope s_levels_of) (by decide +kernel)) (fun _ _ _ _ _ => (pg_name (i := 1) nd rfl (.inl rfl))) (fun _ _ _ _ _ => pts_nil) (fun _ _ _ _ _ => (pe_fn G_is_value hg (hr.mono (by decide)) T.d_is_value.kp T.d_is_value.m (by rfl) passL (pa_cons (pv 1) pa_nil)))) pa_nil))))))) (pss_one (ps_raiseV (i := 0) (k := 0) rfl takeC T.e_InvalidValues T.ti T.di (hr.mono (by decide)) (by rfl) (pv 0))) pss_nil)
      (pss_one (ps_ret (pe_fn G_integers_in hg (hr.mono (by decide)) T.d_integers_in.kp T.d_integers_in.m (by rfl) passL (pa_cons (pv 0) pa_nil))))), ?_⟩
      refine ⟨.ref p, rfl, .ref p, _, rfl, .lst hp, fun H1 e1 => ⟨_, rfl, iteF ?_⟩⟩
      have hs : SqL K H p xs := .inl (.inl hp)
      have L := el_lcL (K := K) (σ := start ["values", "value"] [V.ref p]) (H := H) (te := tFn sp_is_value (fun _ _ _ => False) (tCons (tVar 1) tNil)) (t := tYes) (tl := tVar 0) (j := 1) (vs := [1]) (fun _ => true) (fun i => V.bl (isValB (xs.getD i .non))) (ev_var rfl) hs (by omega) (fun x => rfl)
        (fun i x H2 e2 hi => et_true fun _ _ q => q) (fun i x H2 e2 hi _ H3 e3 Q3 q5 => ?_)
      · rw [given_all (f := isValB) (g := V.bl) (d := .non)] at L
        refine et_not (et_B (ev_all (K := K) L)) H1 e1 _ fun H2 e2 => ?_
        have eH : Ex H H2 := fun b o hb => e2 b o (e1 b o hb)
        by_cases hb : ∀ x ∈ xs, isValB x = true
        · have e : (xs.map isValB).all id = true := by
            rw [List.all_map]
            exact List.all_eq_true.mpr hb
          rw [e]
          refine iteF ⟨.ref p, rfl, p, xs, rfl, ?_, fun x hx => ?_, hlen, fun ns r H' hd hr' e' h' => q3 hb ns r H' hd (fresh_back eH hr') (eH.trans e') h'⟩
          · exact .inl (ex_l eH hs)
          · obtain ⟨t, ht⟩ := kn x hx
            exact ⟨t, ht.up eH⟩
        · have e : (xs.map isValB).all id = false := by
            rw [List.all_map]
            exact Bool.eq_false_iff.mpr fun z => hb (List.all_eq_true.mp z)
          rw [e]
          refine iteT ⟨.ref p, rfl, fun d hd => (q4 ?_).new eH hd⟩
          obtain ⟨x, hx⟩ := Classical.not_forall.mp hb
          obtain ⟨h1, h2⟩ := Classical.not_imp.mp hx
          exact ⟨x, h1, Bool.eq_false_iff.mpr h2⟩
      · have hx : xs.getD i .non = x := by simp [List.getD_eq_getElem?_getD, hi]
        obtain ⟨t, ht⟩ := kn x (List.mem_of_getElem? hi)
        exact ⟨x, rfl, x, t, rfl, ht.up (e2.trans e3), by rw [hx] at q5; exact q5 _ (Ex.refl _)⟩
    | @tup p xs hp =>
      obtain ⟨kn, hlen, q3, q4⟩ := q2 p xs rfl (.inr hp)
      refine ⟨_, (pss_cons (ps_if (PW.pt (pw_or (pt_not (pt_val (pe_fn G_is_list hg (hr.mono (by decide)) T.d_is_list.kp T.d_is_list.m (by rfl) passL (pa_cons (pv 0) pa_nil)))) (pw_or1 (pt_not (pt_val (pe_callB (cr_all rfl) (by rfl) T.z_all (by decide +kernel) (pa_cons (pe_lc rfl (own := [("value", 1)]) (g := gName 1) (by exact nd) (pi_tup (pv 0)) (blkOk_by (own := [("value", 1)]) (N := ["values", "value"]) (sc := defScope s_levels_of) (by decide +kernel)) (fun _ _ _ _ _ => (pg_name (i := 1) nd rfl (.inl rfl))) (fun _ _ _ _ _ => pts_nil) (fun _ _ _ _ _ => (pe_fn G_is_value hg (hr.mono (by decide)) T.d_is_value.kp T.d_is_value.m (by rfl) passL (pa_cons (pv 1) pa_nil)))) pa_nil))))))) (pss_one (ps_raiseV (i := 0) (k := 0) rfl takeC T.e_InvalidValues T.ti T.di (hr.mono (by decide)) (by rfl) (pv 0))) pss_nil)
      (pss_one (ps_ret (pe_fn G_integers_in hg (hr.mono (by decide)) T.d_integers_in.kp T.d_integers_in.m (by rfl) passL (pa_cons (pv 0) pa_nil))))), ?_⟩
      refine ⟨.ref p, rfl, .ref p, _, rfl, .tup hp, fun H1 e1 => ⟨_, rfl, iteF ?_⟩⟩
      have hs : SqT K H p xs := .inl (.inl hp)
      have L := el_lcT (K := K) (σ := start ["values", "value"] [V.ref p]) (H := H) (te := tFn sp_is_value (fun _ _ _ => False) (tCons (tVar 1) tNil)) (t := tYes) (tl := tVar 0) (j := 1) (vs := [1]) (fun _ => true) (fun i => V.bl (isValB (xs.getD i .non))) (ev_var rfl) hs (by omega) (fun x => rfl)
        (fun i x H2 e2 hi => et_true fun _ _ q => q) (fun i x H2 e2 hi _ H3 e3 Q3 q5 => ?_)
      · rw [given_all (f := isValB) (g := V.bl) (d := .non)] at L
        refine et_not (et_B (ev_all (K := K) L)) H1 e1 _ fun H2 e2 => ?_
        have eH : Ex H H2 := fun b o hb => e2 b o (e1 b o hb)
        by_cases hb : ∀ x ∈ xs, isValB x = true
        · have e : (xs.map isValB).all id = true := by
            rw [List.all_map]
            exact List.all_eq_true.mpr hb
          rw [e]
          refine iteF ⟨.ref p, rfl, p, xs, rfl, ?_, fun x hx => ?_, hlen, fun ns r H' hd hr' e' h' => q3 hb ns r H' hd (fresh_back eH hr') (eH.trans e') h'⟩
          · exact .inr (ex_t eH hs)
          · obtain ⟨t, ht⟩ := kn x hx
            exact ⟨t, ht.up eH⟩
        · have e : (xs.map isValB).all id = false := by
            rw [List.all_map]
            exact Bool.eq_false_iff.mpr fun z => hb (List.all_eq_true.mp z)
          rw [e]
          refine iteT ⟨.ref p, rfl, fun d hd => (q4 ?_).new eH hd⟩
          obtain ⟨x, hx⟩ := Classical.not_forall.mp hb
          obtain ⟨h1, h2⟩ := Classical.not_imp.mp hx
          exact ⟨x, h1, Bool.eq_false_iff.mpr h2⟩
      · have hx : xs.getD i .non = x := by simp [List.getD_eq_getElem?_getD, hi]
        obtain ⟨t, ht⟩ := kn x (List.mem_of_getElem? hi)
        exact ⟨x, rfl, x, t, rfl, ht.up (e2.trans e3), by rw [hx] at q5; exact q5 _ (Ex.refl _)⟩
end
end K11
namespace K11
open PySem PySem.Spec PyProof.Rows L2 LG Evl
/-! ### the pot: a list of two ints -/
def Po (p : Addr) (H : Hp) : Prop := ∃ x y : Int, H p = some (.lst [.int x, .int y]) ∧ 0 ≤ y ∧ y < 2147483587
/-- all but the pot is as before -/
def Px (p : Addr) (H H' : Hp) : Prop := (∀ b o, b ≠ p → H b = some o → H' b = some o) ∧ Po p H'
theorem Po.up {p : Addr} {H H' : Hp} (h : Po p H) (e : Ex H H') : Po p H' := let ⟨x, y, h1, h2⟩ := h; ⟨x, y, e _ _ h1, h2⟩
theorem Px.of {p : Addr} {H H' : Hp} (h : Po p H) (e : Ex H H') : Px p H H' := ⟨fun b o _ hb => e b o hb, h.up e⟩
theorem Px.refl {p : Addr} {H : Hp} (h : Po p H) : Px p H H := ⟨fun _ _ _ e => e, h⟩
theorem Px.trans {p : Addr} {H H1 H2 : Hp} (a : Px p H H1) (b : Px p H1 H2) : Px p H H2 := ⟨fun c o n h => b.1 c o n (a.1 c o n h), b.2⟩
theorem Px.ex {p : Addr} {H H1 H2 : Hp} (a : Px p H H1) (e : Ex H1 H2) : Px p H H2 := ⟨fun c o n h => e c o (a.1 c o n h), a.2.up e⟩
theorem Px.ne {p l : Addr} {H H' : Hp} (h : Px p H H') (n : H' l = none) : l ≠ p := fun z => by
  obtain ⟨x, y, h1, _⟩ := h.2
  rw [z, h1] at n
  cases n
theorem Po.ne {p l : Addr} {H : Hp} (h : Po p H) (n : H l = none) : l ≠ p := (Px.refl h).ne n
theorem Px.fresh {p l : Addr} {H H' : Hp} (h : Px p H H') (n : H' l = none) : H l = none := by
  have hl := h.ne n
  cases e : H l with
  | none => rfl
  | some o =>
    rw [h.1 l o hl e] at n
    cases n
theorem Px.set {p : Addr} {H H' : Hp} {x y : Int} (a : Px p H H') (h1 : 0 ≤ y) (h2 : y < 2147483587) : Px p H (upd H' p (.lst [.int x, .int y])) :=
  ⟨fun b o n h => by rw [upd_ne n]; exact a.1 b o n h, x, y, upd_same, h1, h2⟩
section
variable {P : Program} {w : World} {K : PySem.W.Frag} {mg : Str → Option Value} {base : Heap} {a : At}
theorem at0 {x y : V} : atI [x, y] 0 = some x := rfl
theorem at1 {x y : V} : atI [x, y] 1 = some y := rfl
def sp__law_draw : Sp := fun vs H Q _ => ∃ (p : Addr) (m : Int), vs = [.ref p, .int m] ∧ Po p H ∧ 0 < m ∧ m ≤ 1000 ∧ ∀ (d : Int) (H' : Hp), 0 ≤ d → d < m → Px p H H' → Q (.int d) H'
theorem ok__law_draw (T : Txt K mg a) : Fn P w K mg base 1 a._law_draw sp__law_draw := by
  refine T.d__law_draw.fn sc__law_draw (fun _ _ _ _ _ _ us hl => match us, hl with | [_, _], _ => rfl) (fun vs H Q E h => ?_) (fun cdv A outer s H vs Q E hg hr h => ?_)
  · obtain ⟨_, _, rfl, _⟩ := h
    rfl
  · obtain ⟨p, m, rfl, ⟨x, y, hp, hy0, hy1⟩, hm0, hm1, q⟩ := h
    have nd := sc__law_draw.nd
    refine ⟨_, (pss_cons (ps_if (pt_cmpR op_gt (pe_ix ix_list (pv 0) pe_int (fun _ _ => rfl)) pe_int (nomark _)) (pss_cons (ps_asg (pe_callB call_divmodW (by rfl) T.z_divmod (by decide +kernel) (pa_cons (pe_ix ix_list (pv 0) pe_int (fun _ _ => rfl)) (pa_cons (pv 1) pa_nil))) (pg_tup (by rfl) (pgs_cons (pg_sub (pv 0) pe_int set_list) (pgs_cons (pg_name (i := 2) nd rfl (.inl rfl)) pgs_nil))))
      (pss_one (ps_ret (pv 2)))) pss_nil)
    (pss_cons (ps_asg (pe_op op_mod (pe_callTy call_int1 (by rfl) T.z_int (by decide +kernel) (pa_cons (pe_op op_add (pe_op op_mul (pe_ix ix_list (pv 0) pe_int (fun _ _ => rfl)) pe_int) pe_int) pa_nil)) pe_int) (pg_sub (pv 0) pe_int set_list))
    (pss_one (ps_ret (pe_op op_mod (pe_op op_fdiv (pe_op op_mod (pe_callTy call_int1 (by rfl) T.z_int (by decide +kernel) (pa_cons (pe_op op_mul (pe_ix ix_list (pv 0) pe_int (fun _ _ => rfl)) (pe_ix ix_list (pv 0) pe_int (fun _ _ => rfl))) pa_nil)) pe_int) pe_int) (pv 1)))))), ?_⟩
    have hs : SqL K H p [.int x, .int y] := sq_of hp
    have P0 : Px p H H := Px.refl ⟨x, y, hp, hy0, hy1⟩
    refine ⟨.ref p, rfl, p, _, 0, _, rfl, rfl, hs, at0, x, 0, rfl, rfl, _, rfl, ?_⟩
    by_cases hx : 0 < x
    · rw [decide_eq_true hx]
      refine iteT ⟨.ref p, rfl, p, _, 0, _, rfl, rfl, hs, at0, .int m, rfl, x, m, rfl, ⟨hm0, ?_⟩, fun t ht => ?_⟩
      · have hj : ¬ ((if m == 0 then 0 else m.natAbs.log2 / 30 + 1) > 300) := by
          have h1 : m.natAbs.log2 ≤ 1000 := Nat.le_trans (Nat.log2_le_self _) (by omega)
          split <;> omega
        show (decide ((if m == 0 then 0 else m.natAbs.log2 / 30 + 1) > 300) && _) = false
        rw [decide_eq_false hj]
        rfl
      · have ne : p ≠ t := ne_of_none hp ht
        refine ⟨t, _, rfl, st_of upd_same, rfl, _, _, rfl, .ref p, rfl, p, [.int x, .int y], 0, 0, rfl, rfl, ?_, rfl, ?_⟩
        · rw [upd_ne ne]
          exact hp
        · exact ⟨_, _, rfl, rfl, _, rfl, q _ _ (Int.emod_nonneg _ (by omega)) (Int.emod_lt_of_pos _ hm0) ((P0.ex (Ex.new ht)).set hy0 hy1)⟩
    · rw [decide_eq_false hx]
      refine iteF ⟨.ref p, rfl, p, _, 1, _, rfl, rfl, hs, at1, y, 48271, rfl, rfl, .inr (by omega), _, 11213, rfl, rfl, .inl ⟨_, rfl, _, _, rfl, rfl, by omega, .ref p, rfl, p, [.int x, .int y], 1, 1, rfl, rfl, hp, rfl, ?_⟩⟩
      have z0 : 0 ≤ (y * 48271 + 11213) % 2147483587 := Int.emod_nonneg _ (by omega)
      have z1 : (y * 48271 + 11213) % 2147483587 < 2147483587 := Int.emod_lt_of_pos _ (by omega)
      have hs2 : SqL K (upd H p (.lst [.int x, .int ((y * 48271 + 11213) % 2147483587)])) p [.int x, .int ((y * 48271 + 11213) % 2147483587)] := sq_of upd_same
      have key : ∀ y' : Int, 0 ≤ y' → y' < 2147483587 → SqL K (upd H p (.lst [.int x, .int y'])) p [.int x, .int y'] → Px p H (upd H p (.lst [.int x, .int y'])) := fun y' a b _ => P0.set a b
      refine ⟨.ref p, rfl, p, _, 1, _, rfl, rfl, hs2, at1, .ref p, rfl, p, _, 1, _, rfl, rfl, hs2, at1, _, _, rfl, rfl, .inr ⟨by omega, by omega⟩, .inl ⟨_, rfl, _, _, rfl, rfl, by omega, _, _, rfl, rfl, by constructor <;> omega, .int m, rfl, _, m, rfl, rfl, hm0, ?_⟩⟩
      exact q _ _ (Int.emod_nonneg _ (by omega)) (Int.emod_lt_of_pos _ hm0) (P0.set z0 z1)
end
end K11
namespace K11
open PySem PySem.Spec PyProof.Rows L2 LG Evl
section
variable {P : Program} {w : World} {K : PySem.W.Frag} {mg : Str → Option Value} {base : Heap} {a : At}
/-! ### the pot made, an element picked -/
def sp__law_pot (K : PySem.W.Frag) : Sp := fun vs H Q _ => ∃ (l : Addr) (ns : List Int) (k : Nat), vs = [.ref l, .int k] ∧ SqL K H l (ns.map V.int) ∧ ns.length ≤ 63 ∧ k ≤ 100 ∧ ∀ (p : Addr) (H' : Hp), H p = none → Ex H H' → Po p H' → Q (.ref p) H'
theorem ok__law_pot (T : Txt K mg a) : Fn P w K mg base 1 a._law_pot (sp__law_pot K) := by
  refine T.d__law_pot.fn sc__law_pot (fun _ _ _ _ _ _ us hl => match us, hl with | [_, _], _ => rfl) (fun vs H Q E h => ?_) (fun cdv A outer s H vs Q E hg hr h => ?_)
  · obtain ⟨_, _, _, rfl, _⟩ := h
    rfl
  · obtain ⟨l, ns, k, rfl, hs, hn, hk, q⟩ := h
    have nd := sc__law_pot.nd
    refine ⟨_, (pss_cons (ps_set (i := 2) nd rfl (.inl rfl) (pe_op op_add (pe_op op_mul pe_int (pv 1)) pe_int))
    (pss_cut (ps_if (pt_cmpR op_lt (pv 1) (pe_callB call_len_seq (by rfl) T.z_len (by decide +kernel) (pa_cons (pv 0) pa_nil)) (nomark _)) (pss_one (ps_set (i := 2) nd rfl (.inl rfl) (pe_ix ix_list (pv 0) (pv 1) (fun _ _ => rfl)))) pss_nil)
    (pss_one (ps_ret (pe_lst (pa_cons (pe_callB (call_max2 rfl) (by rfl) T.z_max (by decide +kernel) (pa_cons pe_int (pa_cons (pe_op op_sub (pe_callB call_abs (by rfl) T.z_abs (by decide +kernel) (pa_cons (pv 2) pa_nil)) (pe_op op_pow pe_int pe_int)) pa_nil))) (pa_cons (pe_op op_add (pe_op op_mod (pe_op op_mul (pe_callTy call_int1 (by rfl) T.z_int (by decide +kernel) (pa_cons (pe_op op_add (pe_op op_mod (pe_callTy call_int1 (by rfl) T.z_int (by decide +kernel) (pa_cons (pe_callB call_abs (by rfl) T.z_abs (by decide +kernel) (pa_cons (pv 2) pa_nil)) pa_nil)) pe_int) pe_int) pa_nil)) (pe_op op_pow (pe_op op_add (pe_op op_mul pe_int (pv 1)) pe_int) pe_int)) pe_int) pe_int) pa_nil))))))), ?_⟩
    refine ⟨.int k, rfl, 23, k, rfl, rfl, .inl (by constructor <;> decide), _, _, rfl, rfl, fun σ' H' => H' = H ∧ ∃ c : Int, σ' = [some (.ref l), some (.int k), some (.int c)], ?_, fun σ' H' ⟨e1, c, e2⟩ => ?_⟩
    · refine ⟨.int k, rfl, .ref l, rfl, l, _, rfl, .inl hs, _, _, rfl, rfl, _, rfl, ?_⟩
      by_cases h : (k : Int) < ((ns.map V.int).length : Int)
      · rw [decide_eq_true h]
        have hk2 : k < (ns.map V.int).length := by omega
        refine iteT ⟨.ref l, rfl, .int k, rfl, l, _, k, (ns.map V.int)[k], rfl, rfl, hs, ?_, ?_⟩
        · unfold atI
          rw [ixN_nat hk2]
          exact List.getElem?_eq_getElem hk2
        · rw [List.getElem_map]
          exact ⟨rfl, _, rfl⟩
      · rw [decide_eq_false h]
        exact iteF ⟨rfl, _, rfl⟩
    · subst e1 e2
      refine ⟨.int c, rfl, c, rfl, 10, 18, rfl, rfl, ⟨by decide, by decide, by decide⟩, _, _, rfl, rfl, 0, _, rfl, .int c, rfl, c, rfl, .inl ⟨_, rfl, _, 2147483549, rfl, rfl, (by decide : (0 : Int) < 2147483549), _, _, rfl, rfl, .inl ⟨_, rfl, .int k, rfl, 2, k, rfl, rfl, .inl (by constructor <;> decide), _, _, rfl, rfl, _, 3, rfl, rfl, ⟨by decide, by decide, by omega⟩, _, _, rfl, rfl, .inl ?_, _, _, rfl, rfl, (by decide : (0 : Int) < 2147483477), _, _, rfl, rfl, (by decide : 2 ≤ sizeLine), fun p hp => q p _ hp (Ex.new hp) ⟨_, _, upd_same, ?_, ?_⟩⟩⟩⟩
      · have h1 := Int.emod_nonneg (if c < 0 then -c else c) (show (2147483549 : Int) ≠ 0 by decide)
        have h2 := Int.emod_lt_of_pos (if c < 0 then -c else c) (show (0 : Int) < 2147483549 by decide)
        constructor <;> omega
      · have h1 := fun z : Int => Int.emod_nonneg z (show (2147483477 : Int) ≠ 0 by decide)
        have h3 : ∀ z : Int, 0 ≤ z → 0 ≤ z + 1 := fun z hz => by omega
        exact h3 _ (h1 _)
      · have h2 := fun z : Int => Int.emod_lt_of_pos z (show (0 : Int) < 2147483477 by decide)
        have h3 : ∀ z : Int, z < 2147483477 → z + 1 < 2147483587 := fun z hz => by omega
        exact h3 _ (h2 _)
def sp__law_pick : Sp := fun vs H Q _ => ∃ (p l : Addr) (xs : List V), vs = [.ref p, .ref l] ∧ Po p H ∧ H l = some (.lst xs) ∧ l ≠ p ∧ 0 < xs.length ∧ xs.length ≤ 1000 ∧ ∀ x ∈ xs, ∀ H', Px p H H' → Q x H'
theorem ok__law_pick (T : Txt K mg a) : Fn P w K mg base 2 a._law_pick sp__law_pick := by
  have G__law_draw : Fn P w K mg base 1 a._law_draw sp__law_draw := ok__law_draw T
  refine T.d__law_pick.fn sc__law_pick (fun _ _ _ _ _ _ us hl => match us, hl with | [_, _], _ => rfl) (fun vs H Q E h => ?_) (fun cdv A outer s H vs Q E hg hr h => ?_)
  · obtain ⟨_, _, _, rfl, _⟩ := h
    rfl
  · obtain ⟨p, l, xs, rfl, hp, hl, hn, h0, h1, q⟩ := h
    refine ⟨_, (pss_one (ps_ret (pe_ix ix_list (pv 1) (pe_fn G__law_draw hg (hr.mono (by decide)) T.d__law_draw.kp T.d__law_draw.m (by rfl) passL (pa_cons (pv 0) (pa_cons (pe_callB call_len_seq (by rfl) T.z_len (by decide +kernel) (pa_cons (pv 1) pa_nil)) pa_nil))) (fun _ _ => rfl)))), ?_⟩
    refine ⟨.ref l, rfl, .ref p, rfl, .ref l, rfl, l, xs, rfl, .inl (sq_of hl), p, _, rfl, hp, by omega, by omega, fun d H' d0 d1 hx => ?_⟩
    obtain ⟨j, rfl⟩ := Int.eq_ofNat_of_zero_le d0
    have hj : j < xs.length := by omega
    refine ⟨l, xs, j, xs[j], rfl, rfl, sq_of (hx.1 l _ hn hl), ?_, q _ (List.getElem_mem hj) _ hx⟩
    unfold atI
    rw [ixN_nat hj]
    exact List.getElem?_eq_getElem hj
end
end K11
namespace K11
open PySem PySem.Spec PyProof.Rows L2 LG Evl
/-! ### small data -/
def dV : V → PyData
  | .int i => .int i
  | .str x => .str x
  | .bl b => .bool b
  | _ => .none
def flat1 : V → Bool
  | .int _ | .str _ | .bl _ | .non => true
  | _ => false
theorem dp_flat {K : PySem.W.Frag} {H : Hp} {v : V} (h : flat1 v = true) : Dp K H v (dV v) := by
  cases v with
  | int i => exact .int i
  | str x => exact .str x
  | bl b => exact .bl b
  | non => exact .non
  | _ => exact absurd (show false = true from h) Bool.false_ne_true
theorem dpAll_flat {K : PySem.W.Frag} {H : Hp} : ∀ {xs : List V}, (∀ x ∈ xs, flat1 x = true) → DpAll K H xs (xs.map dV)
  | [], _ => .nil
  | x :: xs, h => .cons (dp_flat (h x List.mem_cons_self)) (dpAll_flat fun y hy => h y (List.mem_cons_of_mem _ hy))
theorem dq_flat {K : PySem.W.Frag} {H : Hp} {v : V} (h : flat1 v = true) : Dq K H v (dV v) := by
  cases v with
  | int i => exact .int i
  | str x => exact .str x
  | bl b => exact .bl b
  | non => exact .non
  | _ => exact absurd (show false = true from h) Bool.false_ne_true
theorem dqAll_flat {K : PySem.W.Frag} {H : Hp} : ∀ {xs : List V}, (∀ x ∈ xs, flat1 x = true) → DqAll K H xs (xs.map dV)
  | [], _ => .nil
  | x :: xs, h => .cons (dq_flat (h x List.mem_cons_self)) (dqAll_flat fun y hy => h y (List.mem_cons_of_mem _ hy))
/-- data that is not deep and not long -/
def Sm (k n : Nat) (d : PyData) : Prop := d.leavesShort 72 = true ∧ d.showable = true ∧ d.depth ≤ k ∧ d.weight ≤ n
theorem Sm.mono {k n j m : Nat} {d : PyData} (h : Sm k n d) (h1 : k ≤ j) (h2 : n ≤ m) : Sm j m d := ⟨h.1, h.2.1, Nat.le_trans h.2.2.1 h1, Nat.le_trans h.2.2.2 h2⟩
theorem Sm.shows {k n : Nat} {d : PyData} (h : Sm k n d) (h1 : k ≤ 60) (h2 : n ≤ 131072) : Shows d := by
  obtain ⟨a, b, c, e⟩ := h
  refine ⟨b, Nat.le_trans c h1, ?_⟩
  have z := PyData.shown_le 72 (by decide) d a
  rw [sizeLine_eq]
  have z2 : (72 + 2) * d.weight ≤ 74 * 131072 := Nat.mul_le_mul (by omega) (by omega)
  omega
theorem sm_int {i : Int} (h : i.natAbs < 10 ^ 70) : Sm 0 240 (.int i) := by
  have hl : i.natAbs.log2 < 233 := by
    by_cases z : i.natAbs = 0
    · rw [z]
      decide
    · exact (Nat.log2_lt z).mpr (Nat.lt_of_lt_of_le h (by decide))
  refine ⟨?_, ?_, ?_, ?_⟩
  · have e := int_text_length_le10 (k := 70) (by decide) h
    have e2 : (PyData.shown (.int i)).length ≤ 72 := by
      show (Str.ofString (toString i)).length ≤ 72
      rw [PySem.ofString_length]
      omega
    simp only [PyData.leavesShort, decide_eq_true_eq]
    exact e2
  · simp only [PyData.showable, decide_eq_true_eq]
    omega
  · simp only [PyData.depth]
    exact Nat.le_refl 0
  · simp only [PyData.weight]
    split <;> omega
theorem sm_bool {b : Bool} : Sm 0 240 (.bool b) := ⟨rfl, rfl, by simp only [PyData.depth]; exact Nat.le_refl 0, by simp only [PyData.weight]; omega⟩
theorem sm_none : Sm 0 240 .none := ⟨rfl, rfl, by simp only [PyData.depth]; exact Nat.le_refl 0, by simp only [PyData.weight]; omega⟩
theorem sm_str {x : Str} (h : (x.cps.toList.all fun c => decide (c < 16 ^ 8)) = true) (hl : x.cps.size ≤ 240) : Sm 0 240 (.str x) := ⟨by simp only [PyData.leavesShort]; exact h, rfl, by simp only [PyData.depth]; exact Nat.le_refl 0, by simp only [PyData.weight]; exact hl⟩
theorem sm_all {k n : Nat} : ∀ {ds : List PyData}, (∀ d ∈ ds, Sm k n d) → PyData.leavesShortAll 72 ds = true ∧ PyData.showableAll ds = true ∧ PyData.depthAll ds ≤ k ∧ PyData.weightAll ds ≤ ds.length * (n + 1)
  | [], _ => ⟨rfl, rfl, by simp only [PyData.depthAll]; omega, by simp only [PyData.weightAll]; omega⟩
  | d :: ds, h => by
    obtain ⟨a1, a2, a3, a4⟩ := h d List.mem_cons_self
    obtain ⟨b1, b2, b3, b4⟩ := sm_all fun y hy => h y (List.mem_cons_of_mem _ hy)
    refine ⟨?_, ?_, ?_, ?_⟩
    · simp only [PyData.leavesShortAll, a1, b1, Bool.and_self]
    · simp only [PyData.showableAll, a2, b2, Bool.and_self]
    · simp only [PyData.depthAll]
      omega
    · simp only [PyData.weightAll, List.length_cons, Nat.add_mul]
      omega
theorem sm_list {k n m : Nat} {ds : List PyData} (h : ∀ d ∈ ds, Sm k n d) (hl : ds.length ≤ m) : Sm (k + 1) (m * (n + 1)) (.list ds) := by
  obtain ⟨b1, b2, b3, b4⟩ := sm_all h
  refine ⟨by simp only [PyData.leavesShort]; exact b1, by simp only [PyData.showable]; exact b2, by simp only [PyData.depth]; omega, ?_⟩
  simp only [PyData.weight]
  exact Nat.le_trans b4 (Nat.mul_le_mul_right _ hl)
theorem sm_tuple {k n m : Nat} {ds : List PyData} (h : ∀ d ∈ ds, Sm k n d) (hl : ds.length ≤ m) : Sm (k + 1) (m * (n + 1)) (.tuple ds) := by
  obtain ⟨b1, b2, b3, b4⟩ := sm_all h
  refine ⟨by simp only [PyData.leavesShort]; exact b1, by simp only [PyData.showable]; exact b2, by simp only [PyData.depth]; omega, ?_⟩
  simp only [PyData.weight]
  exact Nat.le_trans b4 (Nat.mul_le_mul_right _ hl)
/-- what the law draws: an end, or an int that is not large -/
def InV (v : V) : Prop := v = .str "bottom" ∨ v = .str "top" ∨ ∃ i : Int, v = .int i ∧ i.natAbs < 10 ^ 60
theorem InV.val {v : V} (h : InV v) : isValB v = true := by
  rcases h with rfl | rfl | ⟨i, rfl, _⟩ <;> rfl
theorem InV.flat {v : V} (h : InV v) : flat1 v = true := by
  rcases h with rfl | rfl | ⟨i, rfl, _⟩ <;> rfl
theorem InV.sm {v : V} (h : InV v) : Sm 0 240 (dV v) := by
  rcases h with rfl | rfl | ⟨i, rfl, hi⟩
  · exact sm_str (by decide +kernel) (by decide +kernel)
  · exact sm_str (by decide +kernel) (by decide +kernel)
  · exact sm_int (Nat.lt_of_lt_of_le hi (by decide))
theorem InV.kn {H : Hp} {v : V} (h : InV v) : ∃ t, Kn H v t := by
  rcases h with rfl | rfl | ⟨i, rfl, hi⟩
  · exact ⟨_, .str _⟩
  · exact ⟨_, .str _⟩
  · exact ⟨_, .int _⟩
theorem kn_val {H : Hp} {v : V} (h : isValB v = true) : ∃ t, Kn H v t := by
  rcases isValB_cases h with ⟨i, rfl⟩ | rfl | rfl
  · exact ⟨_, .int _⟩
  · exact ⟨_, .str _⟩
  · exact ⟨_, .str _⟩
/-! ### the number of a value, the value of a number -/
def big : Int := 10 ^ 64
def num (v : V) : Int := match v with | .int i => i | .str x => if x = "bottom" then - big else big | _ => 0
def shV (n : Int) : V := if n = -big then .str "bottom" else if n = big then .str "top" else .int n
section
variable {P : Program} {w : World} {K : PySem.W.Frag} {mg : Str → Option Value} {base : Heap} {a : At}
def sp__law_number : Sp := fun vs H Q _ => ∃ v, vs = [v] ∧ isValB v = true ∧ ∀ H', Ex H H' → Q (.int (num v)) H'
theorem ok__law_number (T : Txt K mg a) : Fn P w K mg base 1 a._law_number sp__law_number := by
  refine T.d__law_number.fn sc__law_number (fun _ _ _ _ _ _ us hl => match us, hl with | [_], _ => rfl) (fun vs H Q E h => ?_) (fun cdv A outer s H vs Q E hg hr h => ?_)
  · obtain ⟨_, rfl, _⟩ := h
    rfl
  · obtain ⟨v, rfl, hv, q⟩ := h
    have hu := hr.units
    have hu1 : (A.deeper _).units + 1 < cLine := Nat.lt_of_le_of_lt (Nat.add_le_add_left (by decide) _) hu
    refine ⟨_, (pss_one (ps_ret (pe_dget2 hu1 (pe_disp (pps_cons pe_str (pe_un un_neg (pe_op op_pow pe_int pe_int)) (pps_cons pe_str (pe_op op_pow pe_int pe_int) pps_nil)) (by rfl) (by rfl) (fun z => by cases z) (by decide)) (pv 0) (pv 0) ⟨rfl, rfl, rfl, rfl⟩))), ?_⟩
    refine fun p hp => ⟨10, 64, rfl, rfl, ⟨by decide, by decide, by decide⟩, _, rfl, 10, 64, rfl, rfl, ⟨by decide, by decide, by decide⟩, upd_same, [(.inr "bottom", .int (-big)), (.inr "top", .int big)], rfl, by decide, p, rfl, .inl ⟨_, .inl upd_same⟩, v, rfl, v, rfl, ?_⟩
    have up : Ex H (upd (upd H p (.dK [])) p (.dK (mergeK [] [(.inr "bottom", .int (-big)), (.inr "top", .int big)]))) := fun b o hb => by
      rw [upd_ne (ne_of_none hb hp), upd_ne (ne_of_none hb hp)]
      exact hb
    rcases isValB_cases hv with ⟨i, rfl⟩ | rfl | rfl
    · exact ⟨none, .inl ⟨_, .inl i, .inl upd_same, rfl, rfl⟩, q _ up⟩
    · exact ⟨some (.int (-big)), .inl ⟨_, .inr "bottom", .inl upd_same, rfl, by decide +kernel⟩, q _ up⟩
    · exact ⟨some (.int big), .inl ⟨_, .inr "top", .inl upd_same, rfl, by decide +kernel⟩, q _ up⟩
def sp__law_shown : Sp := fun vs H Q _ => ∃ n : Int, vs = [.int n] ∧ ∀ H', Ex H H' → Q (shV n) H'
theorem ok__law_shown (T : Txt K mg a) : Fn P w K mg base 1 a._law_shown sp__law_shown := by
  refine T.d__law_shown.fn sc__law_shown (fun _ _ _ _ _ _ us hl => match us, hl with | [_], _ => rfl) (fun vs H Q E h => ?_) (fun cdv A outer s H vs Q E hg hr h => ?_)
  · obtain ⟨_, rfl, _⟩ := h
    rfl
  · obtain ⟨n, rfl, q⟩ := h
    have hu := hr.units
    have hu1 : (A.deeper _).units + 1 < cLine := Nat.lt_of_le_of_lt (Nat.add_le_add_left (by decide) _) hu
    refine ⟨_, (pss_one (ps_ret (pe_dget2 hu1 (pe_disp (pps_cons (pe_un un_neg (pe_op op_pow pe_int pe_int)) pe_str (pps_cons (pe_op op_pow pe_int pe_int) pe_str pps_nil)) (by rfl) (by rfl) (fun z => by cases z) (by decide)) (pv 0) (pv 0) ⟨rfl, rfl, rfl, rfl⟩))), ?_⟩
    refine fun p hp => ⟨10, 64, rfl, rfl, ⟨by decide, by decide, by decide⟩, _, rfl, 10, 64, rfl, rfl, ⟨by decide, by decide, by decide⟩, upd_same, [(.inl (-big), .str "bottom"), (.inl big, .str "top")], rfl, by decide, p, rfl, .inl ⟨_, .inl upd_same⟩, .int n, rfl, .int n, rfl, ?_⟩
    have up : Ex H (upd (upd H p (.dK [])) p (.dK (mergeK [] [(.inl (-big), .str "bottom"), (.inl big, .str "top")]))) := fun b o hb => by
      rw [upd_ne (ne_of_none hb hp), upd_ne (ne_of_none hb hp)]
      exact hb
    have hm : mergeK [] [(.inl (-big), .str "bottom"), (.inl big, .str "top")] = [((.inl (-big) : Key), V.str "bottom"), (.inl big, .str "top")] := by decide +kernel
    refine ⟨valV (mergeK [] [(.inl (-big), .str "bottom"), (.inl big, .str "top")]) (.inl n), .inl ⟨_, .inl n, .inl upd_same, rfl, rfl⟩, ?_⟩
    have e : (valV (mergeK [] [(.inl (-big), .str "bottom"), (.inl big, .str "top")]) (.inl n)).getD (.int n) = shV n := by
      rw [hm]
      unfold valV shV
      by_cases h1 : n = -big
      · subst h1
        simp
      · by_cases h2 : n = big
        · subst h2
          have h3 : ¬ (-big = big) := by decide
          simp [List.find?, h1, h3]
        · simp [List.find?, h1, h2, Ne.symm h1, Ne.symm h2]
    rw [e]
    exact q _ up
end
end K11
namespace K11
open PySem PySem.Spec PyProof.Rows L2 LG Evl
section
variable {X : Cx}
/-- list + list: the new list is not the table of modules -/
def rCatB : R2 := fun x y H Q => ∃ l b xs zs, x = .ref l ∧ y = .ref b ∧ H l = some (.lst xs) ∧ H b = some (.lst zs) ∧ xs.length + zs.length ≤ sizeLine ∧ ∀ p, H p = none → p ≠ sysModules → Q (.ref p) (upd H p (.lst (xs ++ zs)))
theorem op_catB : OpR X (binaryOp .Add) rCatB := by
  intro pins s σ H x y v u Q I rx ry h
  obtain ⟨l, b, xs, zs, rfl, rfl, hH, hB, hz, q⟩ := h
  cases rx
  cases ry
  obtain ⟨z, its, n, r, hl, e⟩ := I.lstM hH
  obtain ⟨z2, its2, n2, r2, hl2, e2⟩ := I.lstM hB
  refine PySem.P.add_list e e2 ?_ (by rw [List.size_toArray, List.size_toArray]; omega)
  have ea : its.toArray ++ its2.toArray = (its ++ its2).toArray := by simp
  rw [ea]
  exact ⟨.ref _, _, I.lnew (t' := s.toks) (r.append r2) (by rw [List.length_append]; omega), rfl, q _ I.fresh (Nat.ne_of_gt (big_of I))⟩
end
theorem shaped_flat {xs : List V} (h : ∀ x ∈ xs, InV x ∨ ∃ i, x = .int i) : SeqAt.shaped (.list (xs.map dV)) = true := by
  have key : ∀ ys : List V, (∀ x ∈ ys, InV x ∨ ∃ i, x = .int i) → PyData.canLayAll0 (ys.map dV) = true ∧ PyData.depthAll (ys.map dV) = 0 := by
    intro ys
    induction ys with
    | nil => exact fun _ => ⟨rfl, rfl⟩
    | cons y ys ih =>
      intro h
      obtain ⟨a, b⟩ := ih fun z hz => h z (List.mem_cons_of_mem _ hz)
      have c : PyData.canLay0 (dV y) = true ∧ PyData.depth (dV y) = 0 := by
        rcases h y List.mem_cons_self with (rfl | rfl | ⟨i, rfl, _⟩) | ⟨i, rfl⟩
        · exact ⟨by decide +kernel, rfl⟩
        · exact ⟨by decide +kernel, rfl⟩
        · exact ⟨rfl, rfl⟩
        · exact ⟨rfl, rfl⟩
      rw [List.map_cons]
      refine ⟨?_, ?_⟩
      · simp only [PyData.canLayAll0, c.1, a, Bool.and_self]
      · simp only [PyData.depthAll, c.2, b, Nat.max_self]
  obtain ⟨a, b⟩ := key xs h
  unfold SeqAt.shaped
  simp only [PyData.canLay0, PyData.depth, a, b, Bool.true_and]
  decide
theorem eqv_nil (ds : List PyData) : PyData.eqv (.list ds) (.list []) = ds.isEmpty := by cases ds <;> simp [PyData.eqv, PyData.eqvAll]
section
variable {P : Program} {w : World} {K : PySem.W.Frag} {mg : Str → Option Value} {base : Heap} {a : At}
def sp__law_thing : Sp := fun vs H Q _ => ∃ (p l : Addr) (ns : List Int), vs = [.ref p, .ref l] ∧ Po p H ∧ H l = some (.lst (ns.map V.int)) ∧ l ≠ p ∧ ns.length ≤ 100 ∧ (∀ n ∈ ns, n.natAbs < 10 ^ 60) ∧ ∀ v H', InV v → Px p H H' → Q v H'
theorem ok__law_thing (T : Txt K mg a) : Fn P w K mg base 3 a._law_thing sp__law_thing := by
  have G__law_draw : Fn P w K mg base 1 a._law_draw sp__law_draw := ok__law_draw T
  have G__law_pick : Fn P w K mg base 2 a._law_pick sp__law_pick := ok__law_pick T
  refine T.d__law_thing.fn sc__law_thing (fun _ _ _ _ _ _ us hl => match us, hl with | [_, _], _ => rfl) (fun vs H Q E h => ?_) (fun cdv A outer s H vs Q E hg hr h => ?_)
  · obtain ⟨_, _, _, rfl, _⟩ := h
    rfl
  · obtain ⟨p, l, ns, rfl, hp, hl, hlp, hn, hb, q⟩ := h
    have nd := sc__law_thing.nd
    have hu : (A.deeper _).units + 64 < cLine := hr.units
    refine ⟨_, (pss_cons (ps_par (i := 2) (j := 3) rfl nd rfl rfl (by decide) rfl rfl (pa_cons (pe_fn G__law_draw hg (hr.mono (by decide)) T.d__law_draw.kp T.d__law_draw.m (by rfl) passL (pa_cons (pv 0) (pa_cons pe_int pa_nil))) (pa_cons (pe_op op_sub (pe_op op_pow pe_int pe_int) pe_int) pa_nil)) rfl)
    (pss_cons (ps_if (pt_cmpR op_lt (pv 2) pe_int (nomark _)) (pss_one (ps_ret (pe_fn G__law_pick hg (hr.mono (by decide)) T.d__law_pick.kp T.d__law_pick.m (by rfl) passL (pa_cons (pv 0) (pa_cons (pe_lst (pa_cons pe_str (pa_cons pe_str pa_nil))) pa_nil))))) pss_nil)
    (pss_cut (ps_if (PW.pt (pw_and (pt_cmpR op_lt (pv 2) pe_int (nomark _)) (pw_and1 (pt_cmpR (op_neD hu) (pv 1) (pe_lst pa_nil) (nomark _))))) (pss_cons (ps_set (i := 4) nd rfl (.inl rfl) (pe_op op_add (pe_fn G__law_pick hg (hr.mono (by decide)) T.d__law_pick.kp T.d__law_pick.m (by rfl) passL (pa_cons (pv 0) (pa_cons (pv 1) pa_nil))) (pe_fn G__law_pick hg (hr.mono (by decide)) T.d__law_pick.kp T.d__law_pick.m (by rfl) passL (pa_cons (pv 0) (pa_cons (pe_lst (pa_cons pe_int (pa_cons pe_int (pa_cons pe_int (pa_cons (pe_un un_neg pe_int) pa_nil))))) pa_nil)))))
      (pss_one (ps_ret (pe_callB (call_max2 rfl) (by rfl) T.z_max (by decide +kernel) (pa_cons (pe_op op_sub pe_int (pv 3)) (pa_cons (pe_callB (call_min2 rfl) (by rfl) T.z_min (by decide +kernel) (pa_cons (pv 3) (pa_cons (pv 4) pa_nil))) pa_nil)))))) pss_nil)
    (pss_cons (ps_if (pt_cmpR op_eq (pv 2) pe_int (nomark _)) (pss_one (ps_ret (pe_fn G__law_pick hg (hr.mono (by decide)) T.d__law_pick.kp T.d__law_pick.m (by rfl) passL (pa_cons (pv 0) (pa_cons (pe_lst (pa_cons (pv 3) (pa_cons (pe_op op_sub pe_int (pv 3)) (pa_cons pe_int (pa_cons pe_int (pa_cons (pe_un un_neg pe_int) pa_nil)))))) pa_nil))))) pss_nil)
    (pss_cons (ps_if (pt_cmpR op_eq (pv 2) pe_int (nomark _)) (pss_one (ps_ret (pe_op op_add (pe_op op_mul (pe_op op_sub (pe_fn G__law_draw hg (hr.mono (by decide)) T.d__law_draw.kp T.d__law_draw.m (by rfl) passL (pa_cons (pv 0) (pa_cons pe_int pa_nil))) pe_int) (pe_op op_pow pe_int pe_int)) (pe_fn G__law_draw hg (hr.mono (by decide)) T.d__law_draw.kp T.d__law_draw.m (by rfl) passL (pa_cons (pv 0) (pa_cons pe_int pa_nil)))))) pss_nil)
    (pss_one (ps_ret (pe_op op_sub (pe_fn G__law_draw hg (hr.mono (by decide)) T.d__law_draw.kp T.d__law_draw.m (by rfl) passL (pa_cons (pv 0) (pa_cons pe_int pa_nil))) pe_int)))))))), ?_⟩
    have e60 : (10 : Int) ^ (60 : Int).toNat = 1000000000000000000000000000000000000000000000000000000000000 := by decide
    have n60 : (10 : Nat) ^ 60 = 1000000000000000000000000000000000000000000000000000000000000 := by decide
    refine ⟨.ref p, rfl, p, 10, rfl, hp, by decide, by decide, fun way H1 w0 w1 x1 => ⟨10, 60, rfl, rfl, ⟨by decide, by decide, by decide⟩, _, 1, rfl, rfl, _, _, rfl, .int way, rfl, way, 2, rfl, rfl, _, rfl, ?_⟩⟩
    have hl1 : H1 l = some (.lst (ns.map V.int)) := x1.1 l _ hlp hl
    by_cases c1 : way < 2
    · rw [decide_eq_true c1]
      refine iteT ⟨.ref p, rfl, (by decide : 2 ≤ sizeLine), fun z hz => ?_⟩
      refine ⟨p, z, _, rfl, x1.2.up (Ex.new hz), upd_same, x1.ne hz, by decide, by decide, fun x hx H2 x2 => q x H2 ?_ ((x1.ex (Ex.new hz)).trans x2)⟩
      rcases List.mem_cons.mp hx with rfl | hx
      · exact .inl rfl
      · rw [List.mem_singleton.mp hx]
        exact .inr (.inl rfl)
    · rw [decide_eq_false c1]
      refine iteF ⟨fun σ' H' => σ' = [some (.ref p), some (.ref l), some (.int way), some (.int (10 ^ (60 : Int).toNat - 1)), none] ∧ Px p H H', ?_, fun σ' H2 ⟨eσ, x2⟩ => ?_⟩
      · refine ⟨.int way, rfl, way, 5, rfl, rfl, _, rfl, ?_⟩
        by_cases c2 : way < 5
        · rw [decide_eq_true c2]
          refine iteT ⟨.ref l, rfl, (by decide : 0 ≤ sizeLine), fun z hz => ?_⟩
          have hl2 : upd H1 z (.lst []) l = some (.lst (ns.map V.int)) := by
            rw [upd_ne (ne_of_none hl1 hz)]
            exact hl1
          have fl : ∀ x ∈ ns.map V.int, flat1 x = true := fun x hx => by
            obtain ⟨i, _, rfl⟩ := List.mem_map.mp hx
            rfl
          refine ⟨_, .list [], .lst (sq_of hl2) (dpAll_flat fl), .lst (sq_of upd_same) .nil, shaped_flat (fun x hx => ?_), by decide +kernel, ?_⟩
          · obtain ⟨i, _, rfl⟩ := List.mem_map.mp hx
            exact .inr ⟨i, rfl⟩
          · refine ⟨_, rfl, ?_⟩
            rw [eqv_nil]
            by_cases c3 : ns = []
            · subst c3
              exact iteF ⟨rfl, x1.ex (Ex.new hz)⟩
            · have c4 : ((ns.map V.int).map dV).isEmpty = false := by
                cases ns with
                | nil => exact absurd rfl c3
                | cons _ _ => rfl
              rw [c4]
              have x3 : Px p H (upd H1 z (.lst [])) := x1.ex (Ex.new hz)
              refine iteT ⟨.ref p, rfl, .ref l, rfl, p, l, _, rfl, x3.2, hl2, hlp, ?_, by rw [List.length_map]; omega, fun v hv H4 x4 => ?_⟩
              · rw [List.length_map]
                exact List.length_pos_iff.mpr c3
              obtain ⟨i, hi, rfl⟩ := List.mem_map.mp hv
              refine ⟨.ref p, rfl, 1, rfl, (by decide : 4 ≤ sizeLine), fun z2 hz2 => ?_⟩
              refine ⟨p, z2, _, rfl, x4.2.up (Ex.new hz2), upd_same, x4.ne hz2, by decide, by decide, fun x hx H5 x5 => ?_⟩
              obtain ⟨j, rfl⟩ : ∃ j : Int, x = .int j := by
                simp only [List.mem_cons, List.not_mem_nil, or_false] at hx
                rcases hx with rfl | rfl | rfl | rfl <;> exact ⟨_, rfl⟩
              refine ⟨i, j, rfl, rfl, .int (10 ^ (60 : Int).toNat - 1), rfl, 0, _, rfl, rfl, .int (10 ^ (60 : Int).toNat - 1), rfl, .int (i + j), rfl, _, _, rfl, _, _, rfl, q _ _ (.inr (.inr ⟨_, rfl, ?_⟩)) ?_⟩
              · rw [e60, n60]
                split <;> split <;> omega
              · exact ((x3.trans x4).ex (Ex.new hz2)).trans x5
        · rw [decide_eq_false c2]
          exact iteF ⟨rfl, x1⟩
      · subst eσ
        refine ⟨.int way, rfl, rfl, _, rfl, ?_⟩
        by_cases c2 : V.int way = V.int 5
        · rw [decide_eq_true c2]
          refine iteT ⟨.ref p, rfl, .int (10 ^ (60 : Int).toNat - 1), rfl, .int (10 ^ (60 : Int).toNat - 1), rfl, 0, _, rfl, rfl, 1, rfl, (by decide : 5 ≤ sizeLine), fun z hz => ?_⟩
          refine ⟨p, z, _, rfl, x2.2.up (Ex.new hz), upd_same, x2.ne hz, by decide, by decide, fun x hm H3 x3 => q x H3 (.inr (.inr ?_)) ((x2.ex (Ex.new hz)).trans x3)⟩
          simp only [List.mem_cons, List.not_mem_nil, or_false] at hm
          rcases hm with rfl | rfl | rfl | rfl | rfl
          · exact ⟨_, rfl, by decide⟩
          · exact ⟨_, rfl, by decide⟩
          · exact ⟨_, rfl, by decide⟩
          · exact ⟨_, rfl, by decide⟩
          · exact ⟨_, rfl, by decide⟩
        · rw [decide_eq_false c2]
          refine iteF ⟨.int way, rfl, rfl, _, rfl, ?_⟩
          by_cases c3 : V.int way = V.int 6
          · rw [decide_eq_true c3]
            refine iteT ⟨.ref p, rfl, p, 19, rfl, x2.2, by decide, by decide, fun d1 H3 d10 d11 x3 => ⟨d1, 9, rfl, rfl, 10, 50, rfl, rfl, ⟨by decide, by decide, by decide⟩, _, _, rfl, rfl, .inl ⟨by omega, by omega⟩, .ref p, rfl, p, 1000, rfl, x3.2, by decide, by decide, fun d2 H4 d20 d21 x4 => ⟨_, d2, rfl, rfl, q _ _ (.inr (.inr ⟨_, rfl, ?_⟩)) ((x2.trans x3).trans x4)⟩⟩⟩
            have e50 : (10 : Int) ^ (50 : Int).toNat = 100000000000000000000000000000000000000000000000000 := by decide
            rw [e50, n60]
            omega
          · rw [decide_eq_false c3]
            refine iteF ⟨.ref p, rfl, p, 41, rfl, x2.2, by decide, by decide, fun d1 H3 d10 d11 x3 => ⟨d1, 20, rfl, rfl, q _ _ (.inr (.inr ⟨_, rfl, ?_⟩)) (x2.trans x3)⟩⟩
            rw [n60]
            omega
end
end K11
namespace K11
open PySem PySem.Spec PyProof.Rows L2 LG Evl
theorem given_if {xs : List V} {f : V → Bool} {g : V → V} {d : V} : given xs.length (fun i => f (xs.getD i d)) (fun i => g (xs.getD i d)) = (xs.filter f).map g := by
  have key : ∀ n, n ≤ xs.length → given n (fun i => f (xs.getD i d)) (fun i => g (xs.getD i d)) = ((xs.take n).filter f).map g := by
    intro n
    induction n with
    | zero => exact fun _ => by simp [given]
    | succ n ih =>
      intro h
      have h1 : xs[n]? = some (xs.getD n d) := by simp [List.getD_eq_getElem?_getD, List.getElem?_eq_getElem (show n < xs.length from h)]
      rw [List.take_add_one, h1, List.filter_append, List.map_append, ← ih (Nat.le_of_succ_le h)]
      cases e : f (xs.getD n d) with
      | true =>
        rw [given_yes (f := fun i => f (xs.getD i d)) e]
        simp only [Option.toList_some, List.filter_cons, e, if_true, List.filter_nil, List.map_cons, List.map_nil]
      | false =>
        rw [given_no (f := fun i => f (xs.getD i d)) e]
        have e0 : List.filter f (some (xs.getD n d)).toList = [] := by
          show List.filter f [_] = []
          simp only [List.filter_cons, e, Bool.false_eq_true, if_false, List.filter_nil]
        rw [e0, List.map_nil, List.append_nil]
  have z := key xs.length (Nat.le_refl _)
  rw [List.take_length] at z
  exact z
theorem getD_of {xs : List V} {i : Nat} {x : V} (h : xs[i]? = some x) : xs.getD i .non = x := by simp [List.getD_eq_getElem?_getD, h]
/-- the intsOf of a list -/
def intsOf (xs : List V) : List Int := xs.filterMap fun v => match v with | .int i => some i | _ => none
theorem ints_map (xs : List V) : (xs.filter isIntB).map id = (intsOf xs).map V.int := by
  induction xs with
  | nil => rfl
  | cons x xs ih =>
    unfold intsOf at ih ⊢
    cases x <;> simp [List.filter_cons, isIntB, ih] <;> simpa using ih
theorem mem_ints {xs : List V} {n : Int} (h : n ∈ intsOf xs) : V.int n ∈ xs := by
  obtain ⟨v, hv, e⟩ := List.mem_filterMap.mp h
  cases v <;> simp at e
  subst e
  exact hv
theorem ints_len (xs : List V) : (intsOf xs).length ≤ xs.length := List.length_filterMap_le _ _
theorem notEnd {x : V} (h : InV x) : (!inV x [.str "bottom", .str "top"]) = isIntB x := by
  rcases h with rfl | rfl | ⟨i, rfl, _⟩
  · decide +kernel
  · decide +kernel
  · rfl
theorem tc1 {te : TE} {σ : L2.St} {H : Hp} {Q : List V → Hp → Prop} (h : te σ H fun v H1 => Q [v] H1) : tCons te tNil σ H Q := h
/-- as a list comprehension: the intsOf of xs -/
theorem el_ints {K : PySem.W.Frag} {σ : L2.St} {H : Hp} {l : Addr} {xs : List V} {tl : TE} {j : Nat} (hl : Ev tl σ H (.ref l)) (hs : SqL K H l xs) (hz : xs.length ≤ 1000) (hx : ∀ x ∈ xs, InV x) (hj : ∀ x, ((wipe σ [j]).set j (some x))[j]? = some (some x)) (hw : ∀ x, wipe ((wipe σ [j]).set j (some x)) [j] = wipe σ [j]) :
    EvL (tLc (iList K tl) (gName j) (tTest (tOp (rIn K true) (tVar j) (tTup (tCons (tC (.str "bottom")) (tCons (tC (.str "top")) tNil))))) (tVar j) [j]) σ H ((intsOf xs).map V.int) := by
  rw [← ints_map, ← given_if (f := isIntB) (g := id) (d := .non)]
  refine el_lcL (xs := xs) (fun i => isIntB (xs.getD i .non)) (fun i => id (xs.getD i .non)) hl hs (by omega) hw (fun i x H1 e hi => ?_) (fun i x H1 e hi _ => ?_)
  · rw [getD_of hi]
    have hin := hx x (List.mem_of_getElem? hi)
    rw [← notEnd hin]
    exact et_test (ev_niU (ev_var (hj x)) (eu_tup (ea_cons ev_c (ea_cons ev_c ea_nil)) (by decide)) (by rcases hin with rfl | rfl | ⟨i, rfl, _⟩ <;> rfl) rfl)
  · rw [getD_of hi]
    exact ev_var (hj x)
/-- what the law's helpers leave: all but the pot and the tables -/
def Pw (p : Addr) (H H' : Hp) : Prop := ∀ b o, b ≠ p → (∀ ps, o ≠ .tbl ps) → H b = some o → H' b = some o
theorem Px.pw {p : Addr} {H H' : Hp} (h : Px p H H') : Pw p H H' := fun b o n _ e => h.1 b o n e
theorem Pw.trans {p : Addr} {H H1 H2 : Hp} (a : Pw p H H1) (b : Pw p H1 H2) : Pw p H H2 := fun c o n t h => b c o n t (a c o n t h)
theorem Pw.refl {p : Addr} {H : Hp} : Pw p H H := fun _ _ _ _ e => e
theorem Pw.of {p : Addr} {H H' : Hp} (e : Ex H H') : Pw p H H' := fun b o _ _ h => e b o h
/-- an odd value: no value of the package; its data stay -/
def Od (K : PySem.W.Frag) (p : Addr) (H : Hp) (v : V) (d : PyData) : Prop := Sm 2 600 d ∧ isValB v = false ∧ PyData.canLay0 (.str (PyData.shown (.list [.str "value", d, .bool true]))) = true ∧ ∀ H', Pw p H H' → (∃ t, Kn H' v t) ∧ Dq K H' v d
theorem Od.up {K : PySem.W.Frag} {p : Addr} {H H' : Hp} {v : V} {d : PyData} (h : Od K p H v d) (e : Pw p H H') : Od K p H' v d := ⟨h.1, h.2.1, h.2.2.1, fun H2 e2 => h.2.2.2 H2 (e.trans e2)⟩
theorem od_flat {K : PySem.W.Frag} {p : Addr} {H : Hp} {v : V} (h : flat1 v = true) (hs : Sm 0 240 (dV v)) (hv : isValB v = false) (ho : PyData.canLay0 (.str (PyData.shown (.list [.str "value", dV v, .bool true]))) = true) : Od K p H v (dV v) := ⟨hs.mono (by decide) (by decide), hv, ho, fun H' _ => ⟨by
  cases v with
  | int i => exact ⟨_, .int i⟩
  | str x => exact ⟨_, .str x⟩
  | bl b => exact ⟨_, .bl b⟩
  | non => exact ⟨_, .non⟩
  | _ => exact absurd (show false = true from h) Bool.false_ne_true, dq_flat h⟩⟩
theorem od_lst1 {K : PySem.W.Frag} {p q : Addr} {H : Hp} {x : V} (hq : H q = some (.lst [x])) (hp : q ≠ p) (hm : q ≠ sysModules) (hx : flat1 x = true) (hs : Sm 0 240 (dV x)) (ho : PyData.canLay0 (.str (PyData.shown (.list [.str "value", .list [dV x], .bool true]))) = true) : Od K p H (.ref q) (.list [dV x]) :=
  ⟨(sm_list (ds := [dV x]) (m := 1) (fun d hd => (List.mem_singleton.mp hd) ▸ hs) (Nat.le_refl 1)).mono (by decide) (by decide), rfl, ho, fun H' e => by
    have z := e q _ hp (fun ps z => by cases z) hq
    exact ⟨⟨_, .lst z⟩, .lst (sq_of z) (.cons (dq_flat hx) .nil) hm⟩⟩
theorem od_tup1 {K : PySem.W.Frag} {p q : Addr} {H : Hp} {x : V} (hq : H q = some (.tup [x])) (hp : q ≠ p) (hx : flat1 x = true) (hs : Sm 0 240 (dV x)) (ho : PyData.canLay0 (.str (PyData.shown (.list [.str "value", .tuple [dV x], .bool true]))) = true) : Od K p H (.ref q) (.tuple [dV x]) :=
  ⟨(sm_tuple (ds := [dV x]) (m := 1) (fun d hd => (List.mem_singleton.mp hd) ▸ hs) (Nat.le_refl 1)).mono (by decide) (by decide), rfl, ho, fun H' e => by
    have z := e q _ hp (fun ps z => by cases z) hq
    exact ⟨⟨_, .tup z⟩, .tup (st_of z) (.cons (dq_flat hx) .nil)⟩⟩
theorem sm_dict0 : Sm 2 600 (.dict []) := ⟨rfl, rfl, by simp only [PyData.depth, PyData.depthKv]; omega, by simp only [PyData.weight, PyData.weightKv]; omega⟩
theorem od_dic0 {K : PySem.W.Frag} {p q : Addr} {H : Hp} (hq : H q = some (.dK [])) (hp : q ≠ p) : Od K p H (.ref q) (.dict []) :=
  ⟨sm_dict0, rfl, by decide +kernel, fun H' e => by
    have z := e q _ hp (fun ps z => by cases z) hq
    exact ⟨⟨_, .dic z⟩, .dic z .nil⟩⟩
section
variable {P : Program} {w : World} {K : PySem.W.Frag} {mg : Str → Option Value} {base : Heap} {a : At}
def sp__law_things : Sp := fun vs H Q _ => ∃ (p : Addr) (m : Nat), vs = [.ref p, .int m] ∧ Po p H ∧ m ≤ 20 ∧ ∀ (l : Addr) (xs : List V) (H' : Hp), H l = none → l ≠ sysModules → xs.length = m → (∀ x ∈ xs, InV x) → Px p H H' → H' l = some (.lst xs) → Q (.ref l) H'
theorem ok__law_things (T : Txt K mg a) : Fn P w K mg base 4 a._law_things sp__law_things := by
  have G__law_thing : Fn P w K mg base 3 a._law_thing sp__law_thing := ok__law_thing T
  refine T.d__law_things.fn sc__law_things (fun _ _ _ _ _ _ us hl => match us, hl with | [_, _], _ => rfl) (fun vs H Q E h => ?_) (fun cdv A outer s H vs Q E hg hr h => ?_)
  · obtain ⟨_, _, rfl, _⟩ := h
    rfl
  · obtain ⟨p, m, rfl, hp, hm, q⟩ := h
    have nd := sc__law_things.nd
    refine ⟨_, (pss_cons (ps_set (i := 2) nd rfl (.inl rfl) (pe_lstB pa_nil))
    (pss_cons (ps_for PassesOwn.leaving rfl (pi_range1 (by rfl) T.z_range (pa_cons (pv 1) pa_nil)) (pg_name (i := 3) nd rfl (.inl rfl))
      (pss_one (ps_expr (pe_bm PySem.F.plainAttrs_list PySem.F.slot_list_append PySem.F.type_list_append mt_append (pv 2) (pa_cons (pe_fn G__law_thing hg (hr.mono (by decide)) T.d__law_thing.kp T.d__law_thing.m (by rfl) passL (pa_cons (pv 0) (pa_cons (pe_lc rfl (own := [("one", 4)]) (g := gName 4) (by exact nd) (pi_list (pv 2)) (blkOk_by (own := [("one", 4)]) (N := ["pot", "many", "found", "turn", "one"]) (sc := defScope s__law_things) (by decide +kernel)) (fun _ _ _ _ _ => (pg_name (i := 4) nd rfl (.inl rfl))) (fun _ _ _ _ _ => (pts_one (pt_cmpR (op_notIn_seq : OpR _ (compareOp .NotIn) (rIn K true)) (pv 4) (pe_tup (pa_cons pe_str (pa_cons pe_str pa_nil))) (by rfl)))) (fun _ _ _ _ _ => (pv 4))) pa_nil))) pa_nil)))))
    (pss_one (ps_ret (pv 2))))), ?_⟩
    refine ⟨(by decide : 0 ≤ sizeLine), fun l hl hlm => ?_⟩
    have hlp : l ≠ p := hp.ne hl
    refine q_forR1 (n := (m : Int)) (ea_cons (ev_var rfl) ea_nil) (by omega) (fun i σ' H' => ∃ xs u v, σ' = [some (.ref p), some (.int m), some (.ref l), u, v] ∧ H' l = some (.lst xs) ∧ xs.length = i ∧ (∀ x ∈ xs, InV x) ∧ Px p H H') (fun H1 e => ?_) ?_ ?_
    · exact ⟨[], none, none, rfl, e l _ upd_same, rfl, fun x hx => absurd hx List.not_mem_nil, (Px.of hp (Ex.new hl)).ex e⟩
    · rintro i σ' H1 hi ⟨xs, u, v, rfl, h1, h2, h3, x1⟩
      refine ⟨.ref l, rfl, .inl ⟨rfl, xs, sq_of h1⟩, ?_⟩
      refine ⟨.ref p, rfl, tc1 ?_⟩
      refine el_ints (K := K) (l := l) (xs := xs) (ev_var rfl) (sq_of h1) (by omega) h3 (fun _ => rfl) (fun _ => rfl) H1 (Ex.refl _) _ fun z H2 hz e2 hz2 => ?_
      have x2 : Px p H1 H2 := Px.of x1.2 e2
      refine ⟨p, z, intsOf xs, rfl, x2.2, hz2, x1.ne hz, by have := ints_len xs; omega, fun n hn => ?_, fun v' H3 hv x3 => ⟨l, xs, v', rfl, rfl, (x2.trans x3).1 l _ hlp h1, ?_, xs ++ [v'], _, _, rfl, upd_same, by rw [List.length_append, h2]; rfl, fun x hx => ?_, ?_⟩⟩
      · rcases h3 _ (mem_ints hn) with z | z | ⟨i, z, hi⟩
        · cases z
        · cases z
        · cases z
          exact hi
      · exact sz_lt (by omega)
      · rcases List.mem_append.mp hx with hx | hx
        · exact h3 x hx
        · rw [List.mem_singleton.mp hx]
          exact hv
      · have x4 := (x1.trans x2).trans x3
        refine ⟨fun b o hb ho => ?_, ?_⟩
        · rw [upd_ne (ne_of_none ho hl)]
          exact x4.1 b o hb ho
        · obtain ⟨c, d, hc⟩ := x4.2
          exact ⟨c, d, by rw [upd_ne (Ne.symm hlp)]; exact hc.1, hc.2⟩
    · rintro σ' H1 ⟨xs, u, v, rfl, h1, h2, h3, x1⟩
      exact ⟨_, rfl, q l xs H1 hl hlm (by rw [h2]; simp) h3 x1 h1⟩
def sp__law_odd (K : PySem.W.Frag) : Sp := fun vs H Q _ => ∃ (p : Addr), vs = [.ref p] ∧ Po p H ∧ ∀ v d H', Od K p H' v d → Px p H H' → Q v H'
theorem ok__law_odd (T : Txt K mg a) : Fn P w K mg base 3 a._law_odd (sp__law_odd K) := by
  have G__law_pick : Fn P w K mg base 2 a._law_pick sp__law_pick := ok__law_pick T
  refine T.d__law_odd.fn sc__law_odd (fun _ _ _ _ _ _ us hl => match us, hl with | [_], _ => rfl) (fun vs H Q E h => ?_) (fun cdv A outer s H vs Q E hg hr h => ?_)
  · obtain ⟨_, rfl, _⟩ := h
    rfl
  · obtain ⟨p, rfl, hp, q⟩ := h
    refine ⟨_, (pss_one (ps_ret (pe_fn G__law_pick hg (hr.mono (by decide)) T.d__law_pick.kp T.d__law_pick.m (by rfl) passL (pa_cons (pv 0) (pa_cons (pe_lst (pa_cons pe_non (pa_cons pe_bl (pa_cons pe_bl (pa_cons pe_str (pa_cons pe_str (pa_cons pe_str (pa_cons pe_str (pa_cons pe_str (pa_cons pe_str (pa_cons (pe_lstB (pa_cons pe_int pa_nil)) (pa_cons (pe_tup (pa_cons pe_int pa_nil)) (pa_cons pe_dnewK (pa_cons (pe_lstB (pa_cons pe_str pa_nil)) pa_nil)))))))))))))) pa_nil))))), ?_⟩
    refine ⟨.ref p, rfl, (by decide : 1 ≤ sizeLine), fun l1 h1 m1 => ⟨(by decide : 1 ≤ sizeLine), fun l2 h2 l3 h3 => ⟨(by decide : 1 ≤ sizeLine), fun l4 h4 m4 => ⟨(by decide : 13 ≤ sizeLine), fun l5 h5 => ?_⟩⟩⟩⟩
    let G1 := upd H l1 (.lst [.int 1])
    let G2 := upd G1 l2 (.tup [.int 1])
    let G3 := upd G2 l3 (.dK [])
    let G4 := upd G3 l4 (.lst [.str "top"])
    let G5 := upd G4 l5 (.lst [.non, .bl true, .bl false, .str "", .str "Bottom", .str "TOP", .str "bottom ", .str "no bound", .str "1", .ref l1, .ref l2, .ref l3, .ref l4])
    have e1 : Ex H G1 := Ex.new h1
    have e2 : Ex G1 G2 := Ex.new h2
    have e3 : Ex G2 G3 := Ex.new h3
    have e4 : Ex G3 G4 := Ex.new h4
    have e5 : Ex G4 G5 := Ex.new h5
    have q1 : G5 l1 = some (.lst [.int 1]) := e5 _ _ (e4 _ _ (e3 _ _ (e2 _ _ upd_same)))
    have q2 : G5 l2 = some (.tup [.int 1]) := e5 _ _ (e4 _ _ (e3 _ _ upd_same))
    have q3 : G5 l3 = some (.dK []) := e5 _ _ (e4 _ _ upd_same)
    have q4 : G5 l4 = some (.lst [.str "top"]) := e5 _ _ upd_same
    have eH : Ex H G5 := (((e1.trans e2).trans e3).trans e4).trans e5
    have n1 := hp.ne h1
    have n2 := (hp.up e1).ne h2
    have n3 := (hp.up (e1.trans e2)).ne h3
    have n4 := (hp.up ((e1.trans e2).trans e3)).ne h4
    have n5 := (hp.up (((e1.trans e2).trans e3).trans e4)).ne h5
    refine ⟨p, l5, _, rfl, hp.up eH, upd_same, n5, (by show 0 < 13; decide), (by show 13 ≤ 1000; decide), fun x hx H' x' => ?_⟩
    have fin : ∀ d, Od K p G5 x d → Q x H' := fun d hd => q x d H' (hd.up x'.pw) ((Px.of hp eH).trans x')
    simp only [List.mem_cons, List.not_mem_nil, or_false] at hx
    rcases hx with rfl | rfl | rfl | rfl | rfl | rfl | rfl | rfl | rfl | rfl | rfl | rfl | rfl
    · exact fin _ (od_flat rfl sm_none rfl (by decide +kernel))
    · exact fin _ (od_flat rfl sm_bool rfl (by decide +kernel))
    · exact fin _ (od_flat rfl sm_bool rfl (by decide +kernel))
    · exact fin _ (od_flat rfl (sm_str (by decide +kernel) (by decide +kernel)) (by decide +kernel) (by decide +kernel))
    · exact fin _ (od_flat rfl (sm_str (by decide +kernel) (by decide +kernel)) (by decide +kernel) (by decide +kernel))
    · exact fin _ (od_flat rfl (sm_str (by decide +kernel) (by decide +kernel)) (by decide +kernel) (by decide +kernel))
    · exact fin _ (od_flat rfl (sm_str (by decide +kernel) (by decide +kernel)) (by decide +kernel) (by decide +kernel))
    · exact fin _ (od_flat rfl (sm_str (by decide +kernel) (by decide +kernel)) (by decide +kernel) (by decide +kernel))
    · exact fin _ (od_flat rfl (sm_str (by decide +kernel) (by decide +kernel)) (by decide +kernel) (by decide +kernel))
    · exact fin _ (od_lst1 q1 n1 m1 rfl (sm_int (by decide)) (by decide +kernel))
    · exact fin _ (od_tup1 q2 n2 rfl (sm_int (by decide)) (by decide +kernel))
    · exact fin _ (od_dic0 q3 n3)
    · exact fin _ (od_lst1 q4 n4 m4 rfl (sm_str (by decide +kernel) (by decide +kernel)) (by decide +kernel))
end
end K11
namespace K11
open PySem PySem.Spec PyProof.Rows L2 LG Evl
section
variable {P : Program} {w : World} {K : PySem.W.Frag} {mg : Str → Option Value} {base : Heap} {a : At}
def extV (way : Int) (xs : List V) : V := if way = 0 then leastV xs else greatestV xs
def sp__law_extreme (K : PySem.W.Frag) (a : At) : Sp := fun vs H Q E => ∃ (way : Int) (l : Addr) (xs : List V), vs = [.int way, .ref l] ∧ (way = 0 ∨ way = 1) ∧ SqL K H l xs ∧ xs.length ≤ 4 ∧ (∀ v ∈ xs, ∃ t, Kn H v t) ∧ ((∀ v ∈ xs, isValB v = true) → ∀ H', Ex H H' → Q (extV way xs) H') ∧
  (∀ (i : Nat) (x : V), xs[i]? = some x → (∀ j y, j < i → xs[j]? = some y → isValB y = true) → isValB x = false → Errs a.c_InvalidValue x H E)
theorem ltT {A B : Prop} (n : Nat) (k : Int) (h : (n : Int) = k) (q : A) : if decide (V.int (n : Int) = V.int k) = true then A else B := by
  rw [h, decide_eq_true rfl]
  exact q
theorem ltF {A B : Prop} (n : Nat) (k : Int) (h : (n : Int) ≠ k) (q : B) : if decide (V.int (n : Int) = V.int k) = true then A else B := by
  rw [decide_eq_false (fun z => h (V.int.inj z))]
  exact q
theorem ext_sp {way : Int} {xs : List V} {H : Hp} {Q : VK} {E : XK} (hl : xs.length ≤ 4) (kn : ∀ v ∈ xs, ∃ t, Kn H v t) (q1 : (∀ v ∈ xs, isValB v = true) → ∀ H', Ex H H' → Q (extV way xs) H') 
    (q2 : ∀ (i : Nat) (x : V), xs[i]? = some x → (∀ j y, j < i → xs[j]? = some y → isValB y = true) → isValB x = false → Errs a.c_InvalidValue x H E) : (way = 0 → sp_extreme leastV a xs H Q E) ∧ (way = 1 → sp_extreme greatestV a xs H Q E) := by
  refine ⟨fun e => ⟨kn, by omega, fun h H' e' => ?_, q2⟩, fun e => ⟨kn, by omega, fun h H' e' => ?_, q2⟩⟩
  · have z := q1 h H' e'
    subst e
    exact z
  · have z := q1 h H' e'
    subst e
    exact z
theorem ok__law_extreme (T : Txt K mg a) : Fn P w K mg base 5 a._law_extreme (sp__law_extreme K a) := by
  have G_lesser_of : Fn P w K mg base 4 a.lesser_of (sp_extreme leastV a) := ok_lesser_of T
  have G_greater_of : Fn P w K mg base 4 a.greater_of (sp_extreme greatestV a) := ok_greater_of T
  refine T.d__law_extreme.fn sc__law_extreme (fun _ _ _ _ _ _ us hl => match us, hl with | [_, _], _ => rfl) (fun vs H Q E h => ?_) (fun cdv A outer s H vs Q E hg hr h => ?_)
  · obtain ⟨_, _, _, rfl, _⟩ := h
    rfl
  · obtain ⟨way, l, xs, rfl, hway, hs, hlen, kn, q1, q2⟩ := h
    refine ⟨_, (pss_cons (ps_if (pt_cmpR op_eq (pe_callB call_len_seq (by rfl) T.z_len (by decide +kernel) (pa_cons (pv 1) pa_nil)) pe_int (nomark _)) (pss_one (ps_ret (pe_ix ix_list (pe_lst (pa_cons (pe_fn0 G_lesser_of hg (hr.mono (by decide)) T.d_lesser_of.kp T.d_lesser_of.m (by rfl) passC) (pa_cons (pe_fn0 G_greater_of hg (hr.mono (by decide)) T.d_greater_of.kp T.d_greater_of.m (by rfl) passC) pa_nil))) (pv 0) (fun _ _ => rfl)))) pss_nil)
    (pss_cons (ps_if (pt_cmpR op_eq (pe_callB call_len_seq (by rfl) T.z_len (by decide +kernel) (pa_cons (pv 1) pa_nil)) pe_int (nomark _)) (pss_one (ps_ret (pe_ifExp (pt_cmpR op_eq (pv 0) pe_int (nomark _)) (pe_fn G_lesser_of hg (hr.mono (by decide)) T.d_lesser_of.kp T.d_lesser_of.m (by rfl) passC (pa_cons (pe_ix ix_list (pv 1) pe_int (fun _ _ => rfl)) pa_nil)) (pe_fn G_greater_of hg (hr.mono (by decide)) T.d_greater_of.kp T.d_greater_of.m (by rfl) passC (pa_cons (pe_ix ix_list (pv 1) pe_int (fun _ _ => rfl)) pa_nil))))) pss_nil)
    (pss_cons (ps_if (pt_cmpR op_eq (pe_callB call_len_seq (by rfl) T.z_len (by decide +kernel) (pa_cons (pv 1) pa_nil)) pe_int (nomark _)) (pss_one (ps_ret (pe_ifExp (pt_cmpR op_eq (pv 0) pe_int (nomark _)) (pe_fn G_lesser_of hg (hr.mono (by decide)) T.d_lesser_of.kp T.d_lesser_of.m (by rfl) passC (pa_cons (pe_ix ix_list (pv 1) pe_int (fun _ _ => rfl)) (pa_cons (pe_ix ix_list (pv 1) pe_int (fun _ _ => rfl)) pa_nil))) (pe_fn G_greater_of hg (hr.mono (by decide)) T.d_greater_of.kp T.d_greater_of.m (by rfl) passC (pa_cons (pe_ix ix_list (pv 1) pe_int (fun _ _ => rfl)) (pa_cons (pe_ix ix_list (pv 1) pe_int (fun _ _ => rfl)) pa_nil)))))) pss_nil)
    (pss_cons (ps_if (pt_cmpR op_eq (pe_callB call_len_seq (by rfl) T.z_len (by decide +kernel) (pa_cons (pv 1) pa_nil)) pe_int (nomark _)) (pss_one (ps_ret (pe_ifExp (pt_cmpR op_eq (pv 0) pe_int (nomark _)) (pe_fn G_lesser_of hg (hr.mono (by decide)) T.d_lesser_of.kp T.d_lesser_of.m (by rfl) passC (pa_cons (pe_ix ix_list (pv 1) pe_int (fun _ _ => rfl)) (pa_cons (pe_ix ix_list (pv 1) pe_int (fun _ _ => rfl)) (pa_cons (pe_ix ix_list (pv 1) pe_int (fun _ _ => rfl)) pa_nil)))) (pe_fn G_greater_of hg (hr.mono (by decide)) T.d_greater_of.kp T.d_greater_of.m (by rfl) passC (pa_cons (pe_ix ix_list (pv 1) pe_int (fun _ _ => rfl)) (pa_cons (pe_ix ix_list (pv 1) pe_int (fun _ _ => rfl)) (pa_cons (pe_ix ix_list (pv 1) pe_int (fun _ _ => rfl)) pa_nil))))))) pss_nil)
    (pss_cons (ps_if (pt_cmpR op_eq (pv 0) pe_int (nomark _)) (pss_one (ps_ret (pe_fn G_lesser_of hg (hr.mono (by decide)) T.d_lesser_of.kp T.d_lesser_of.m (by rfl) passC (pa_cons (pe_ix ix_list (pv 1) pe_int (fun _ _ => rfl)) (pa_cons (pe_ix ix_list (pv 1) pe_int (fun _ _ => rfl)) (pa_cons (pe_ix ix_list (pv 1) pe_int (fun _ _ => rfl)) (pa_cons (pe_ix ix_list (pv 1) pe_int (fun _ _ => rfl)) pa_nil))))))) pss_nil)
    (pss_one (ps_ret (pe_fn G_greater_of hg (hr.mono (by decide)) T.d_greater_of.kp T.d_greater_of.m (by rfl) passC (pa_cons (pe_ix ix_list (pv 1) pe_int (fun _ _ => rfl)) (pa_cons (pe_ix ix_list (pv 1) pe_int (fun _ _ => rfl)) (pa_cons (pe_ix ix_list (pv 1) pe_int (fun _ _ => rfl)) (pa_cons (pe_ix ix_list (pv 1) pe_int (fun _ _ => rfl)) pa_nil)))))))))))), ?_⟩
    obtain ⟨s0, s1⟩ := ext_sp (a := a) (Q := Q) (E := E) hlen kn q1 q2
    have wt : ∀ (A B : Prop), (way = 0 → A) → (way = 1 → B) → (if decide (V.int way = V.int 0) = true then A else B) := fun A B h0 h1 => by
      rcases hway with rfl | rfl
      · rw [if_pos (by rfl)]
        exact h0 rfl
      · rw [if_neg (by rw [show decide (V.int 1 = V.int 0) = false from rfl]; exact Bool.false_ne_true)]
        exact h1 rfl
    match xs, hlen with
    | [], _ =>
      refine ⟨.ref l, rfl, l, [], rfl, .inl hs, rfl, _, rfl, ?_⟩
      refine ltT _ _ (by simp) ?_
      have z0 := q1 (fun v hv => absurd hv List.not_mem_nil)
      refine ⟨fun v hv => absurd hv List.not_mem_nil, by decide, fun _ H1 e1 => ⟨fun v hv => absurd hv List.not_mem_nil, by decide, fun _ H2 e2 => ⟨(by decide : 2 ≤ sizeLine), fun z hz => ?_⟩, fun i x hi => by cases hi⟩, fun i x hi => by cases hi⟩
      have eH : Ex H (upd H2 z (.lst [leastV [], greatestV []])) := (e1.trans e2).trans (Ex.new hz)
      refine ⟨.int way, rfl, z, _, way, extV way [], rfl, rfl, sq_of upd_same, ?_, z0 _ eH⟩
      rcases hway with rfl | rfl
      · rfl
      · rfl
    | [x0], _ =>
      refine ⟨.ref l, rfl, l, [x0], rfl, .inl hs, rfl, _, rfl, ?_⟩
      refine ltF _ _ (by simp) ?_
      refine ⟨.ref l, rfl, l, [x0], rfl, .inl hs, rfl, _, rfl, ?_⟩
      refine ltT _ _ (by simp) ?_
      refine ⟨.int way, rfl, rfl, _, rfl, ?_⟩
      refine wt _ _ (fun e => ?_) (fun e => ?_)
      · exact ⟨.ref l, rfl, l, [x0], 0, x0, rfl, rfl, hs, rfl, s0 e⟩
      · exact ⟨.ref l, rfl, l, [x0], 0, x0, rfl, rfl, hs, rfl, s1 e⟩
    | [x0, x1], _ =>
      refine ⟨.ref l, rfl, l, [x0, x1], rfl, .inl hs, rfl, _, rfl, ?_⟩
      refine ltF _ _ (by simp) ?_
      refine ⟨.ref l, rfl, l, [x0, x1], rfl, .inl hs, rfl, _, rfl, ?_⟩
      refine ltF _ _ (by simp) ?_
      refine ⟨.ref l, rfl, l, [x0, x1], rfl, .inl hs, rfl, _, rfl, ?_⟩
      refine ltT _ _ (by simp) ?_
      refine ⟨.int way, rfl, rfl, _, rfl, ?_⟩
      refine wt _ _ (fun e => ?_) (fun e => ?_)
      · exact ⟨.ref l, rfl, l, [x0, x1], 0, x0, rfl, rfl, hs, rfl, .ref l, rfl, l, [x0, x1], 1, x1, rfl, rfl, hs, rfl, s0 e⟩
      · exact ⟨.ref l, rfl, l, [x0, x1], 0, x0, rfl, rfl, hs, rfl, .ref l, rfl, l, [x0, x1], 1, x1, rfl, rfl, hs, rfl, s1 e⟩
    | [x0, x1, x2], _ =>
      refine ⟨.ref l, rfl, l, [x0, x1, x2], rfl, .inl hs, rfl, _, rfl, ?_⟩
      refine ltF _ _ (by simp) ?_
      refine ⟨.ref l, rfl, l, [x0, x1, x2], rfl, .inl hs, rfl, _, rfl, ?_⟩
      refine ltF _ _ (by simp) ?_
      refine ⟨.ref l, rfl, l, [x0, x1, x2], rfl, .inl hs, rfl, _, rfl, ?_⟩
      refine ltF _ _ (by simp) ?_
      refine ⟨.ref l, rfl, l, [x0, x1, x2], rfl, .inl hs, rfl, _, rfl, ?_⟩
      refine ltT _ _ (by simp) ?_
      refine ⟨.int way, rfl, rfl, _, rfl, ?_⟩
      refine wt _ _ (fun e => ?_) (fun e => ?_)
      · exact ⟨.ref l, rfl, l, [x0, x1, x2], 0, x0, rfl, rfl, hs, rfl, .ref l, rfl, l, [x0, x1, x2], 1, x1, rfl, rfl, hs, rfl, .ref l, rfl, l, [x0, x1, x2], 2, x2, rfl, rfl, hs, rfl, s0 e⟩
      · exact ⟨.ref l, rfl, l, [x0, x1, x2], 0, x0, rfl, rfl, hs, rfl, .ref l, rfl, l, [x0, x1, x2], 1, x1, rfl, rfl, hs, rfl, .ref l, rfl, l, [x0, x1, x2], 2, x2, rfl, rfl, hs, rfl, s1 e⟩
    | [x0, x1, x2, x3], _ =>
      refine ⟨.ref l, rfl, l, [x0, x1, x2, x3], rfl, .inl hs, rfl, _, rfl, ?_⟩
      refine ltF _ _ (by simp) ?_
      refine ⟨.ref l, rfl, l, [x0, x1, x2, x3], rfl, .inl hs, rfl, _, rfl, ?_⟩
      refine ltF _ _ (by simp) ?_
      refine ⟨.ref l, rfl, l, [x0, x1, x2, x3], rfl, .inl hs, rfl, _, rfl, ?_⟩
      refine ltF _ _ (by simp) ?_
      refine ⟨.ref l, rfl, l, [x0, x1, x2, x3], rfl, .inl hs, rfl, _, rfl, ?_⟩
      refine ltF _ _ (by simp) ?_
      refine ⟨.int way, rfl, rfl, _, rfl, ?_⟩
      refine wt _ _ (fun e => ?_) (fun e => ?_)
      · exact ⟨.ref l, rfl, l, [x0, x1, x2, x3], 0, x0, rfl, rfl, hs, rfl, .ref l, rfl, l, [x0, x1, x2, x3], 1, x1, rfl, rfl, hs, rfl, .ref l, rfl, l, [x0, x1, x2, x3], 2, x2, rfl, rfl, hs, rfl, .ref l, rfl, l, [x0, x1, x2, x3], 3, x3, rfl, rfl, hs, rfl, s0 e⟩
      · exact ⟨.ref l, rfl, l, [x0, x1, x2, x3], 0, x0, rfl, rfl, hs, rfl, .ref l, rfl, l, [x0, x1, x2, x3], 1, x1, rfl, rfl, hs, rfl, .ref l, rfl, l, [x0, x1, x2, x3], 2, x2, rfl, rfl, hs, rfl, .ref l, rfl, l, [x0, x1, x2, x3], 3, x3, rfl, rfl, hs, rfl, s1 e⟩
    | _ :: _ :: _ :: _ :: _ :: _, h =>
      simp only [List.length_cons] at h
      omega
end
end K11
namespace K11
open PySem PySem.Spec PyProof.Rows L2 LG Evl LamX
theorem takesLen {X : Cx} {W : WX} (t : Takes X W) : Takes X (fun cls d σ H => σ.length = X.N.length → W cls d σ H) := fun u s' ⟨a, B, sI, pins, σ, H, cls, d, e, I, nb, up, sky, na, os, ag, w⟩ =>
  t u s' ⟨a, B, sI, pins, σ, H, cls, d, e, I, nb, up, sky, na, os, ag, w I.len⟩
theorem pss_by {X : Cx} {st : List Stmt} {t : TS} (h : ∀ D σ H, t D σ H → ∃ u, PSs X st u ∧ u D σ H) : PSs X st t := ⟨fun pins s σ H D I hh => let ⟨_, h1, h2⟩ := h D σ H hh; h1.run pins s σ H D I h2⟩
/-- what told makes of a lambda that lets one of the three errors out -/
def TTold (K : PySem.W.Frag) (a : At) : (XK → Hp → VK → Prop) → Hp → VK → Prop := fun tl H Q => ∃ (C : Addr) (kind : Str) (dat : PyData),
  ((C = a.c_InvalidValue ∧ kind = "value") ∨ (C = a.c_InvalidValues ∧ kind = "values") ∨ (C = a.c_InvalidInteger ∧ kind = "integer")) ∧ Sm 3 7000 dat ∧
  ∀ H1, Ex H H1 → ∀ Q' : VK, tl (fun cls d H' => ∃ dd v, cls = .ref C ∧ d = some dd ∧ H' dd = some (.xd [("value", v)]) ∧ (∀ H2, Ex H' H2 → Dq K H2 v dat) ∧ ∀ H2, Ex H' H2 → Q (.str (PyData.shown (.list [.str kind, dat, .bool true]))) H2) H1 Q'
def sTold (C : Addr) (kind : Str) : Addr → Value → Option Addr → TS := fun a0 cls d D σ H => ∃ dd v, cls = .ref C ∧ d = some dd ∧ σ[2]? = some (some (.ref a0)) ∧ H dd = some (.xd [("value", v)]) ∧
  ∀ p, H p = none → p ≠ sysModules → D.nx (σ.set 1 (some (.ref p))) (upd H p (.lst [.str kind, v, .bl true]))
theorem lk (v : V) : List.lookup ("value" : Str) [(("value" : Str), v)] = some v := by simp
theorem kit_sub {K : PySem.W.Frag} {C D : Addr} (g : OexC K D) (x : ExcC K D) (h : PySem.W.subIn K (.ref C) (.ref D) = some true) : PySem.W.kitOne K (.ref C) (.ref D) = some true := by
  unfold PySem.W.kitOne
  split
  · rfl
  · obtain ⟨cd, hc, _⟩ := PySem.W.any_some x.hd
    show (if ((PySem.W.clsIn K D).isSome && PySem.W.typeIn K (.ref D) == some (.type "type")) = true then PySem.W.subIn K (.ref C) (.ref D) else none) = some true
    rw [if_pos (by rw [hc, g.tyC]; rfl)]
    exact h
theorem kit_VE {K : PySem.W.Frag} {C : Addr} (h : PySem.W.subIn K (.ref C) (.type "ValueError") = some true) : PySem.W.kitOne K (.ref C) (.type "ValueError") = some true := by
  show (if ((Value.ref C == .type "ValueError") = true) then some true else if PySem.W.kitMeta "ValueError" = true then PySem.W.subIn K (.ref C) (.type "ValueError") else none) = some true
  rw [if_neg (by intro z; cases z), if_pos (by decide +kernel)]
  exact h
section
variable {X : Cx} {a : At}
theorem told_gives (T : Txt X.K X.mg a) (hg : X.A.guards = some []) (hr : Room 1 X.A) (cdg : Value) (q : Str) : GivesTo X ["act", "told", "e"] "_law_told" (defScope s__law_told) a._law_told cdg (defBody s__law_told) "act" q (TTold X.K a) := by
  intro f c' s H Q tl act hc h
  have nd := sc__law_told.nd
  have hu : (X.A.deeper (envOfC "_law_told" (defScope s__law_told) s.heap.objs.size a._law_told cdg)).units + 64 < cLine := (hr.deeper _).units
  have exm : ∀ {C D : Addr} {x : Str} {b : Bool}, GEx X.K X.mg x D a.init → PySem.W.subIn X.K (.ref C) (.ref D) = some b → PySem.W.exmOne X.K (.ref C) (.ref D) = some b := fun g h => PySem.W.exm_ref g.o.exC g.is.hd g.o.tyC h
  refine ⟨_, pss_cons (ps_set (i := 1) nd rfl (.inl rfl) (pe_lst (pa_cons pe_str pa_nil)))
    (pss_cons (ps_try_manyAs (n := "e") (i := 2) (Wout := fun _ _ _ _ => False) (tb := fun W D σ H => ∃ Ech : XK, (∀ cls d σ' H', Ech cls d H' → σ'.length = 3 → W cls d σ' H') ∧ σ[0]? = some (some (.ref f)) ∧ H c' = some (CodeO c' q) ∧ ∀ Q', tl Ech H Q') rfl rfl nd rfl rfl LamX.takes0 (fun W pn xe tk _ => pss_by fun D σ H1 hh => ?_)
      (.cons (c := .ref a.c_InvalidValue) (ts := sTold a.c_InvalidValue "value") ⟨by rfl, by decide, .inl T.e_InvalidValue.m⟩ (fun a0 oe cls d pn hz hf => pss_by fun D σ HZ ⟨dd, v, e1, e2, hσ, hd, qq⟩ => by
        subst e1 e2
        refine ⟨_, pss_one (ps_set (i := 1) nd rfl (.inl rfl) (pe_lstB (pa_cons pe_str (pa_cons (pe_xf T.e_InvalidValue.xf T.e_InvalidValue.v hz hf (pv 2)) (pa_cons (pe_and (pe_callB (call_isE2 T.e_InvalidValue.is hz hf) (by rfl) T.z_isinstance (by decide +kernel) (pa_cons (pv 2) (pa_cons (pe_glob (v := .ref a.c_HeldError) (by rfl) T.e_HeldError.m rfl) pa_nil)))
          (pe_one (pe_callB (call_isE2 T.e_InvalidValue.is hz hf) (by rfl) T.z_isinstance (by decide +kernel) (pa_cons (pv 2) (pa_cons (pe_ty "ValueError" (by rfl) T.z_ValueError (by decide +kernel)) pa_nil))))) pa_nil))))), ?_⟩
        exact ⟨.ref a0, hσ, rfl, rfl, dd, [("value", v)], v, rfl, hd, lk v, .ref a0, hσ, ⟨_, hd⟩, .ref a.c_HeldError, .ref a.c_HeldError, true, rfl, fun _ e => e, kit_sub T.e_HeldError.o T.e_HeldError.is T.x_InvalidValue_HeldError, _, rfl, iteT ⟨.ref a0, hσ, ⟨_, hd⟩, .ty "ValueError", .type "ValueError", true, rfl, fun _ e => e, kit_VE T.y_InvalidValue, (by decide : 3 ≤ sizeLine), qq⟩⟩)
      (.cons (c := .ref a.c_InvalidValues) (ts := sTold a.c_InvalidValues "values") ⟨by rfl, by decide, .inl T.e_InvalidValues.m⟩ (fun a0 oe cls d pn hz hf => pss_by fun D σ HZ ⟨dd, v, e1, e2, hσ, hd, qq⟩ => by
        subst e1 e2
        refine ⟨_, pss_one (ps_set (i := 1) nd rfl (.inl rfl) (pe_lstB (pa_cons pe_str (pa_cons (pe_xf T.e_InvalidValues.xf T.e_InvalidValues.v hz hf (pv 2)) (pa_cons (pe_and (pe_callB (call_isE2 T.e_InvalidValues.is hz hf) (by rfl) T.z_isinstance (by decide +kernel) (pa_cons (pv 2) (pa_cons (pe_glob (v := .ref a.c_HeldError) (by rfl) T.e_HeldError.m rfl) pa_nil)))
          (pe_one (pe_callB (call_isE2 T.e_InvalidValues.is hz hf) (by rfl) T.z_isinstance (by decide +kernel) (pa_cons (pv 2) (pa_cons (pe_ty "ValueError" (by rfl) T.z_ValueError (by decide +kernel)) pa_nil))))) pa_nil))))), ?_⟩
        exact ⟨.ref a0, hσ, rfl, rfl, dd, [("value", v)], v, rfl, hd, lk v, .ref a0, hσ, ⟨_, hd⟩, .ref a.c_HeldError, .ref a.c_HeldError, true, rfl, fun _ e => e, kit_sub T.e_HeldError.o T.e_HeldError.is T.x_InvalidValues_HeldError, _, rfl, iteT ⟨.ref a0, hσ, ⟨_, hd⟩, .ty "ValueError", .type "ValueError", true, rfl, fun _ e => e, kit_VE T.y_InvalidValues, (by decide : 3 ≤ sizeLine), qq⟩⟩)
      (.cons (c := .ref a.c_InvalidInteger) (ts := sTold a.c_InvalidInteger "integer") ⟨by rfl, by decide, .inl T.e_InvalidInteger.m⟩ (fun a0 oe cls d pn hz hf => pss_by fun D σ HZ ⟨dd, v, e1, e2, hσ, hd, qq⟩ => by
        subst e1 e2
        refine ⟨_, pss_one (ps_set (i := 1) nd rfl (.inl rfl) (pe_lstB (pa_cons pe_str (pa_cons (pe_xf T.e_InvalidInteger.xf T.e_InvalidInteger.v hz hf (pv 2)) (pa_cons (pe_and (pe_callB (call_isE2 T.e_InvalidInteger.is hz hf) (by rfl) T.z_isinstance (by decide +kernel) (pa_cons (pv 2) (pa_cons (pe_glob (v := .ref a.c_HeldError) (by rfl) T.e_HeldError.m rfl) pa_nil)))
          (pe_one (pe_callB (call_isE2 T.e_InvalidInteger.is hz hf) (by rfl) T.z_isinstance (by decide +kernel) (pa_cons (pv 2) (pa_cons (pe_ty "ValueError" (by rfl) T.z_ValueError (by decide +kernel)) pa_nil))))) pa_nil))))), ?_⟩
        exact ⟨.ref a0, hσ, rfl, rfl, dd, [("value", v)], v, rfl, hd, lk v, .ref a0, hσ, ⟨_, hd⟩, .ref a.c_HeldError, .ref a.c_HeldError, true, rfl, fun _ e => e, kit_sub T.e_HeldError.o T.e_HeldError.is T.x_InvalidInteger_HeldError, _, rfl, iteT ⟨.ref a0, hσ, ⟨_, hd⟩, .ty "ValueError", .type "ValueError", true, rfl, fun _ e => e, kit_VE T.y_InvalidInteger, (by decide : 3 ≤ sizeLine), qq⟩⟩)
      .nil))))
    (pss_one (ps_ret (pe_callB (call_repr hg hu) (by rfl) T.z_repr (by decide +kernel) (pa_cons (pv 1) pa_nil))))), ?_⟩
  · obtain ⟨Ech, hW, h1, h2, h3⟩ := hh
    have hp := fun p1 p2 => act _ pn xe Ech p1 p2 (takesLen tk) fun cls d σ' H' e hl => hW cls d σ' H' e hl
    exact ⟨_, pss_one (ps_set (i := 1) nd rfl (.inl rfl) (pe_lst (pa_cons pe_str (pa_cons (hp _ _) pa_nil)))), ⟨h1, h2, h3 _⟩⟩
  · obtain ⟨C, kind, dat, hk, hsm, ht⟩ := h
    refine ⟨(by decide : 1 ≤ sizeLine), fun p0 hp0 => ?_⟩
    have e0 : Ex H (upd H p0 (.lst [.str "other"])) := Ex.new hp0
    refine ⟨_, fun cls d σ' H' he hl => ?_, rfl, e0 _ _ hc, fun Q' => ht _ e0 Q'⟩
    obtain ⟨dd, v, rfl, rfl, hd, hq, q'⟩ := he
    obtain ⟨s0, s1, s2, rfl⟩ : ∃ s0 s1 s2, σ' = [s0, s1, s2] := match σ', hl with | [s0, s1, s2], _ => ⟨s0, s1, s2, rfl⟩
    have fin : ∀ (a0 : Addr) (D : Ends), D = offN 2 { nx := tRet (tCB (rRepr X.K) (tCons (tVar 1) tNil)) { nx := fun _ H' => Q .non H', rt := Q }, rt := Q } → sTold C kind a0 (.ref C) (some dd) D ([s0, s1, s2].set 2 (some (.ref a0))) H' := by
      rintro a0 D rfl
      refine ⟨dd, v, rfl, rfl, rfl, hd, fun p hp hm => ⟨.ref p, rfl, .ref p, .list [.str kind, dat, .bool true], rfl, .inl (.lst (sq_of upd_same) (.cons (.str _) (.cons (hq _ (Ex.new hp)) (.cons (.bl true) .nil))) hm), ?_, q' _ (Ex.new hp)⟩⟩
      have sk : Sm 0 240 (.str kind) := by
        rcases hk with ⟨_, rfl⟩ | ⟨_, rfl⟩ | ⟨_, rfl⟩
        · exact sm_str (by decide +kernel) (by decide +kernel)
        · exact sm_str (by decide +kernel) (by decide +kernel)
        · exact sm_str (by decide +kernel) (by decide +kernel)
      refine (sm_list (ds := [.str kind, dat, .bool true]) (k := 3) (n := 7000) (m := 3) (fun d hd => ?_) (Nat.le_refl 3)).shows (by decide) (by decide)
      simp only [List.mem_cons, List.not_mem_nil, or_false] at hd
      rcases hd with rfl | rfl | rfl
      · exact sk.mono (by decide) (by decide)
      · exact hsm
      · exact sm_bool.mono (by decide) (by decide)
    rcases hk with ⟨rfl, rfl⟩ | ⟨rfl, rfl⟩ | ⟨rfl, rfl⟩
    · exact ⟨true, exm T.e_InvalidValue T.x_InvalidValue_InvalidValue, fun _ a0 _ => fin a0 _ rfl, (fun z => nomatch z)⟩
    · exact ⟨false, exm T.e_InvalidValue T.x_InvalidValues_InvalidValue, (fun z => nomatch z), fun _ => ⟨true, exm T.e_InvalidValues T.x_InvalidValues_InvalidValues, fun _ a0 _ => fin a0 _ rfl, (fun z => nomatch z)⟩⟩
    · exact ⟨false, exm T.e_InvalidValue T.x_InvalidInteger_InvalidValue, (fun z => nomatch z), fun _ => ⟨false, exm T.e_InvalidValues T.x_InvalidInteger_InvalidValues, (fun z => nomatch z), fun _ => ⟨true, exm T.e_InvalidInteger T.x_InvalidInteger_InvalidInteger, fun _ a0 _ => fin a0 _ rfl, (fun z => nomatch z)⟩⟩⟩
end
end K11
namespace K11
open PySem PySem.Spec PyProof.Rows L2 LG Evl
/-- a value whose number lies within the ends -/
def Bd (v : V) : Prop := v = .str "bottom" ∨ v = .str "top" ∨ ∃ i : Int, v = .int i ∧ -big < i ∧ i < big
theorem big_eq : big = 10000000000000000000000000000000000000000000000000000000000000000 := by decide
theorem InV.bd {v : V} (h : InV v) : Bd v := by
  rcases h with h | h | ⟨i, h, hi⟩
  · exact .inl h
  · exact .inr (.inl h)
  · refine .inr (.inr ⟨i, h, ?_⟩)
    have e : (10 : Nat) ^ 60 = 1000000000000000000000000000000000000000000000000000000000000 := by decide
    rw [e] at hi
    rw [big_eq]
    omega
theorem num_bot : num (.str "bottom") = -big := by decide +kernel
theorem num_top : num (.str "top") = big := by decide +kernel
theorem num_int (i : Int) : num (.int i) = i := rfl
theorem Bd.le {v : V} (h : Bd v) : -big ≤ num v ∧ num v ≤ big := by
  rcases h with rfl | rfl | ⟨i, rfl, h1, h2⟩
  · rw [num_bot, big_eq]; omega
  · rw [num_top, big_eq]; omega
  · rw [num_int]; omega
theorem Bd.inj {x y : V} (hx : Bd x) (hy : Bd y) (h : num x = num y) : x = y := by
  rcases hx with rfl | rfl | ⟨i, rfl, h1, h2⟩ <;> rcases hy with rfl | rfl | ⟨j, rfl, h3, h4⟩
  · rfl
  · rw [num_bot, num_top, big_eq] at h; omega
  · rw [num_bot, num_int] at h; omega
  · rw [num_bot, num_top, big_eq] at h; omega
  · rfl
  · rw [num_top, num_int] at h; omega
  · rw [num_bot, num_int] at h; omega
  · rw [num_top, num_int] at h; omega
  · rw [num_int, num_int] at h; rw [h]
theorem Bd.sh {v : V} (h : Bd v) : shV (num v) = v := by
  unfold shV
  rcases h with rfl | rfl | ⟨i, rfl, h1, h2⟩
  · rw [num_bot, if_pos rfl]
  · rw [num_top, if_neg (by rw [big_eq]; omega), if_pos rfl]
  · rw [num_int, if_neg (by omega), if_neg (by omega)]
theorem nbt : ¬ (V.str "bottom" = V.str "top") := fun z => bt (V.str.inj z)
theorem geB_num {x y : V} (hx : Bd x) (hy : Bd y) : geB x y = decide (num y ≤ num x) := by
  have lx := hx.le
  have ly := hy.le
  unfold geB
  by_cases c1 : x = .str "top" ∨ y = .str "bottom"
  · rw [if_pos c1]
    refine (decide_eq_true ?_).symm
    rcases c1 with rfl | rfl
    · rw [num_top]; exact ly.2
    · rw [num_bot]; exact lx.1
  · rw [if_neg c1]
    have n1 : x ≠ .str "top" := fun z => c1 (.inl z)
    have n2 : y ≠ .str "bottom" := fun z => c1 (.inr z)
    by_cases c2 : x = .str "bottom" ∨ y = .str "top"
    · rw [if_pos c2]
      refine (decide_eq_false fun z => ?_).symm
      rcases c2 with rfl | rfl
      · rw [num_bot] at z
        exact n2 (hy.inj (.inl rfl) (by rw [num_bot]; omega))
      · rw [num_top] at z
        exact n1 (hx.inj (.inr (.inl rfl)) (by rw [num_top]; omega))
    · rw [if_neg c2]
      rcases hx with rfl | rfl | ⟨i, rfl, _⟩
      · exact absurd (.inl rfl) c2
      · exact absurd rfl n1
      · rcases hy with rfl | rfl | ⟨j, rfl, _⟩
        · exact absurd rfl n2
        · exact absurd (.inr rfl) c2
        · rfl
/-- the levels at which two values are looked at -/
def nearOf (x y : V) : List Int := intsOf [x, y] ++ (intsOf [x, y]).map (· + 1) ++ [0]
theorem atV_eq {x y r : V} : (atV x r = atV y r) ↔ geB x r = geB y r := by
  unfold atV
  cases geB x r <;> cases geB y r
  · simp
  · exact ⟨fun z => absurd z nbt, fun z => by cases z⟩
  · exact ⟨fun z => absurd z.symm nbt, fun z => by cases z⟩
  · simp
theorem bd_int {i : Int} (h1 : -big < i) (h2 : i < big) : Bd (.int i) := .inr (.inr ⟨i, rfl, h1, h2⟩)
theorem part {x y : V} (hx : InV x) (hy : InV y) (h : num x < num y) : ∃ r ∈ nearOf x y, atV x (.int r) ≠ atV y (.int r) := by
  have e : (10 : Nat) ^ 60 = 1000000000000000000000000000000000000000000000000000000000000 := by decide
  have key : ∀ r : Int, -big < r → r < big → num x < r → r ≤ num y → atV x (.int r) ≠ atV y (.int r) := fun r h1 h2 h3 h4 z => by
    have z2 := atV_eq.mp z
    rw [geB_num hx.bd (bd_int h1 h2), geB_num hy.bd (bd_int h1 h2), num_int, decide_eq_false (by omega), decide_eq_true h4] at z2
    cases z2
  have bx := hx.bd.le
  have by' := hy.bd.le
  rcases hy with rfl | rfl | ⟨j, rfl, hj⟩
  · rw [num_bot] at h
    omega
  · rcases hx with rfl | rfl | ⟨i, rfl, hi⟩
    · refine ⟨0, by unfold nearOf; simp, key 0 (by rw [big_eq]; omega) (by rw [big_eq]; omega) (by rw [num_bot, big_eq]; omega) (by rw [num_top, big_eq]; omega)⟩
    · omega
    · rw [e] at hi
      rw [num_int] at h
      refine ⟨i + 1, by unfold nearOf; simp [intsOf], key _ (by rw [big_eq]; omega) (by rw [big_eq]; omega) (by rw [num_int]; omega) (by rw [num_top, big_eq]; omega)⟩
  · rw [e] at hj
    refine ⟨j, by unfold nearOf; simp [intsOf, List.filterMap_cons]; cases x <;> simp, key _ (by rw [big_eq]; omega) (by rw [big_eq]; omega) h (Int.le_refl _)⟩
theorem marks_part {x y : V} (hx : InV x) (hy : InV y) : ((nearOf x y).map fun r => decide (atV x (.int r) = atV y (.int r))).all id = decide (x = y) := by
  rw [List.all_map]
  by_cases c : x = y
  · subst c
    rw [decide_eq_true rfl]
    exact List.all_eq_true.mpr fun r _ => decide_eq_true rfl
  · rw [decide_eq_false c]
    refine Bool.eq_false_iff.mpr fun z => ?_
    have all : ∀ r ∈ nearOf x y, atV x (.int r) = atV y (.int r) := fun r hr => of_decide_eq_true (List.all_eq_true.mp z r hr)
    rcases Int.lt_trichotomy (num x) (num y) with h | h | h
    · obtain ⟨r, h1, h2⟩ := part hx hy h
      exact h2 (all r h1)
    · exact c (hx.bd.inj hy.bd h)
    · obtain ⟨r, h1, h2⟩ := part hy hx h
      refine h2 (all r ?_).symm
      unfold nearOf at h1 ⊢
      have sw : ∀ k : Int, k ∈ intsOf [y, x] ↔ k ∈ intsOf [x, y] := fun k => by
        unfold intsOf
        simp only [List.mem_filterMap, List.mem_cons, List.not_mem_nil, or_false]
        constructor
        · rintro ⟨v, h, e⟩
          exact ⟨v, h.symm, e⟩
        · rintro ⟨v, h, e⟩
          exact ⟨v, h.symm, e⟩
      simp only [List.mem_append, List.mem_map, List.mem_singleton] at h1 ⊢
      rcases h1 with (h1 | ⟨k, h1, h3⟩) | h1
      · exact .inl (.inl ((sw r).mp h1))
      · exact .inl (.inr ⟨k, (sw k).mp h1, h3⟩)
      · exact .inr h1
/-! ### the least and the greatest -/
theorem least_fold : ∀ (xs : List V) (z : V), Bd z → (∀ x ∈ xs, Bd x) → ∃ r, xs.foldl (fun f v => if geB f v = true then v else f) z = r ∧ Bd r ∧ (r = z ∨ r ∈ xs) ∧ num r ≤ num z ∧ ∀ x ∈ xs, num r ≤ num x
  | [], z, hz, _ => ⟨z, rfl, hz, .inl rfl, Int.le_refl _, fun x hx => absurd hx List.not_mem_nil⟩
  | x :: xs, z, hz, hx => by
    rw [List.foldl_cons]
    have bx := hx x List.mem_cons_self
    have hr := fun y hy => hx y (List.mem_cons_of_mem _ hy)
    by_cases c : geB z x = true
    · rw [if_pos c]
      obtain ⟨r, e, b, h1, h2, h3⟩ := least_fold xs x bx hr
      have hc : num x ≤ num z := by
        rw [geB_num hz bx] at c
        exact of_decide_eq_true c
      refine ⟨r, e, b, .inr (h1.elim (fun q => q ▸ List.mem_cons_self) fun q => List.mem_cons_of_mem _ q), Int.le_trans h2 hc, fun y hy => ?_⟩
      rcases List.mem_cons.mp hy with rfl | hy
      · exact h2
      · exact h3 y hy
    · rw [if_neg c]
      obtain ⟨r, e, b, h1, h2, h3⟩ := least_fold xs z hz hr
      have hc : num z ≤ num x := by
        rw [geB_num hz bx] at c
        exact Int.le_of_lt (Int.not_le.mp fun q => c (decide_eq_true q))
      refine ⟨r, e, b, h1.elim .inl fun q => .inr (List.mem_cons_of_mem _ q), h2, fun y hy => ?_⟩
      rcases List.mem_cons.mp hy with rfl | hy
      · exact Int.le_trans h2 hc
      · exact h3 y hy
theorem greatest_fold : ∀ (xs : List V) (z : V), Bd z → (∀ x ∈ xs, Bd x) → ∃ r, xs.foldl (fun f v => if geB v f = true then v else f) z = r ∧ Bd r ∧ (r = z ∨ r ∈ xs) ∧ num z ≤ num r ∧ ∀ x ∈ xs, num x ≤ num r
  | [], z, hz, _ => ⟨z, rfl, hz, .inl rfl, Int.le_refl _, fun x hx => absurd hx List.not_mem_nil⟩
  | x :: xs, z, hz, hx => by
    rw [List.foldl_cons]
    have bx := hx x List.mem_cons_self
    have hr := fun y hy => hx y (List.mem_cons_of_mem _ hy)
    by_cases c : geB x z = true
    · rw [if_pos c]
      obtain ⟨r, e, b, h1, h2, h3⟩ := greatest_fold xs x bx hr
      have hc : num z ≤ num x := by
        rw [geB_num bx hz] at c
        exact of_decide_eq_true c
      refine ⟨r, e, b, .inr (h1.elim (fun q => q ▸ List.mem_cons_self) fun q => List.mem_cons_of_mem _ q), Int.le_trans hc h2, fun y hy => ?_⟩
      rcases List.mem_cons.mp hy with rfl | hy
      · exact h2
      · exact h3 y hy
    · rw [if_neg c]
      obtain ⟨r, e, b, h1, h2, h3⟩ := greatest_fold xs z hz hr
      have hc : num x ≤ num z := by
        rw [geB_num bx hz] at c
        exact Int.le_of_lt (Int.not_le.mp fun q => c (decide_eq_true q))
      refine ⟨r, e, b, h1.elim .inl fun q => .inr (List.mem_cons_of_mem _ q), h2, fun y hy => ?_⟩
      rcases List.mem_cons.mp hy with rfl | hy
      · exact Int.le_trans hc h2
      · exact h3 y hy
theorem least_is {xs : List V} {m : Int} (hx : ∀ x ∈ xs, Bd x) (h1 : m ∈ xs.map num) (h2 : ∀ y ∈ xs.map num, m ≤ y) : shV m = leastV xs := by
  obtain ⟨r, e, b, h3, h4, h5⟩ := least_fold xs (.str "top") (.inr (.inl rfl)) hx
  obtain ⟨x, hxm, ex⟩ := List.mem_map.mp h1
  have er : leastV xs = r := e
  have z : num r = m := by
    refine Int.le_antisymm ?_ ?_
    · rw [← ex]
      exact h5 x hxm
    · rcases h3 with rfl | h3
      · rw [num_top, ← ex]
        exact (hx x hxm).le.2
      · exact h2 _ (List.mem_map.mpr ⟨r, h3, rfl⟩)
  rw [er, ← z]
  exact b.sh
theorem greatest_is {xs : List V} {m : Int} (hx : ∀ x ∈ xs, Bd x) (h1 : m ∈ xs.map num) (h2 : ∀ y ∈ xs.map num, y ≤ m) : shV m = greatestV xs := by
  obtain ⟨r, e, b, h3, h4, h5⟩ := greatest_fold xs (.str "bottom") (.inl rfl) hx
  obtain ⟨x, hxm, ex⟩ := List.mem_map.mp h1
  have er : greatestV xs = r := e
  have z : num r = m := by
    refine Int.le_antisymm ?_ ?_
    · rcases h3 with rfl | h3
      · rw [num_bot, ← ex]
        exact (hx x hxm).le.1
      · exact h2 _ (List.mem_map.mpr ⟨r, h3, rfl⟩)
    · rw [← ex]
      exact h5 x hxm
  rw [er, ← z]
  exact b.sh
end K11
namespace K11
open PySem PySem.Spec PyProof.Rows L2 LG Evl
section
variable {K : PySem.W.Frag} {σ : L2.St} {H : Hp} {te ta tb : TE}
theorem ev_repr {v : V} {d : PyData} (h : Ev te σ H v) (hd : ∀ H1, Ex H H1 → Dp K H1 v d) (hs : Shows d) : Ev (tCB (rRepr K) (tCons te tNil)) σ H (.str d.shown) := fun H1 e Q q => h H1 e _ fun H2 e2 => ⟨v, d, rfl, .inr (hd H2 (e.trans e2)), hs, q H2 e2⟩
theorem ev_reprL {xs : List V} {d : PyData} (h : EvL te σ H xs) (hd : ∀ p H1, Ex H H1 → H1 p = some (.lst xs) → Dp K H1 (.ref p) d) (hs : Shows d) : Ev (tCB (rRepr K) (tCons te tNil)) σ H (.str d.shown) := fun H1 e Q q => h H1 e _ fun p H2 _ e2 h2 => ⟨.ref p, d, rfl, .inr (hd p H2 (e.trans e2) h2), hs, q H2 e2⟩
theorem ev_fn {sp : Sp} {vs : List V} {E : XK} {tv : TA} {z : V} (h : EvA tv σ H vs) (hs : SpV sp vs H z) : Ev (tFn sp E tv) σ H z := fun H1 e Q q => h H1 e _ fun H2 e2 => hs H2 (e.trans e2) Q (fun H3 e3 => q H3 (e2.trans e3)) E
/-- list + list, the first one wherever it stands -/
theorem el_cat {xs ys : List V} (ha : ∀ H1, Ex H H1 → ∀ Q : VK, (∀ p H2, Ex H1 H2 → H2 p = some (.lst xs) → Q (.ref p) H2) → ta σ H1 Q) (hb : EvL tb σ H ys) (hz : xs.length + ys.length ≤ 100000) : EvL (tOp rCat ta tb) σ H (xs ++ ys) := fun H1 e Q q =>
  ha H1 e _ fun p H2 e2 h2 => hb H2 (e.trans e2) _ fun p2 H3 _ e3 h3 => ⟨p, p2, xs, ys, rfl, rfl, e3 p _ h2, h3, sz_of hz, fun l hl => q l _ (fresh_back (e2.trans e3) hl) ((e2.trans e3).trans (Ex.new hl)) upd_same⟩
theorem of_ev {xs : List V} {p : Addr} (h : Ev ta σ H (.ref p)) (hp : H p = some (.lst xs)) : ∀ H1, Ex H H1 → ∀ Q : VK, (∀ p H2, Ex H1 H2 → H2 p = some (.lst xs) → Q (.ref p) H2) → ta σ H1 Q := fun H1 e Q q => h H1 e _ fun H2 e2 => q p H2 e2 (e2 p _ (e p _ hp))
theorem of_el {xs : List V} (h : EvL ta σ H xs) : ∀ H1, Ex H H1 → ∀ Q : VK, (∀ p H2, Ex H1 H2 → H2 p = some (.lst xs) → Q (.ref p) H2) → ta σ H1 Q := fun H1 e Q q => h H1 e _ fun p H2 _ e2 h2 => q p H2 e2 h2
/-- the ints of a list display -/
theorem el_intsN {xs : List V} {tl : TE} {j : Nat} (hl : EvL tl σ H xs) (hz : xs.length ≤ 1000) (hx : ∀ x ∈ xs, InV x) (hj : ∀ x, ((wipe σ [j]).set j (some x))[j]? = some (some x)) (hw : ∀ x, wipe ((wipe σ [j]).set j (some x)) [j] = wipe σ [j]) :
    EvL (tLc (iList K tl) (gName j) (tTest (tOp (rIn K true) (tVar j) (tTup (tCons (tC (.str "bottom")) (tCons (tC (.str "top")) tNil))))) (tVar j) [j]) σ H ((intsOf xs).map V.int) := by
  rw [← ints_map, ← given_if (f := isIntB) (g := id) (d := .non)]
  refine el_lcNL (xs := xs) (fun i => isIntB (xs.getD i .non)) (fun i => id (xs.getD i .non)) hl (by omega) hw (fun i x H1 e hi => ?_) (fun i x H1 e hi _ => ?_)
  · rw [getD_of hi]
    have hin := hx x (List.mem_of_getElem? hi)
    rw [← notEnd hin]
    exact et_test (ev_niU (ev_var (hj x)) (eu_tup (ea_cons ev_c (ea_cons ev_c ea_nil)) (by decide)) (by rcases hin with rfl | rfl | ⟨i, rfl, _⟩ <;> rfl) rfl)
  · rw [getD_of hi]
    exact ev_var (hj x)
theorem et_yes : EvT tYes σ H true := et_true fun _ _ q => q
/-- a comprehension over a list, each element computed -/
theorem el_map {l : Addr} {xs : List V} {tl : TE} {j : Nat} (f : V → V) (hl : Ev tl σ H (.ref l)) (hs : SqL K H l xs) (hz : xs.length ≤ 1000) (hw : ∀ x, wipe ((wipe σ [j]).set j (some x)) [j] = wipe σ [j])
    (he : ∀ x ∈ xs, ∀ H1, Ex H H1 → Ev te ((wipe σ [j]).set j (some x)) H1 (f x)) : EvL (tLc (iList K tl) (gName j) tYes te [j]) σ H (xs.map f) := by
  have z : given xs.length (fun _ => true) (fun i => f (xs.getD i .non)) = xs.map f := by
    have z2 := given_if (xs := xs) (f := fun _ => true) (g := f) (d := .non)
    rw [z2, List.filter_eq_self.mpr fun _ _ => rfl]
  rw [← z]
  refine el_lcL (xs := xs) (fun _ => true) (fun i => f (xs.getD i .non)) hl hs (by omega) hw (fun i x H1 e hi => et_yes) (fun i x H1 e hi _ => ?_)
  rw [getD_of hi]
  exact he x (List.mem_of_getElem? hi) H1 e
end
theorem sp_num {H : Hp} {v : V} (h : isValB v = true) : SpV sp__law_number [v] H (.int (num v)) := fun H1 e Q q E => ⟨v, rfl, h, q⟩
theorem sp_least {a : At} {H : Hp} {x y : V} (hx : isValB x = true) (hy : isValB y = true) : SpV (sp_is_at_least a) [x, y] H (.bl (geB x y)) := fun H1 e Q q E => by
  obtain ⟨t, ht⟩ := kn_val (H := H1) hx
  obtain ⟨u, hu⟩ := kn_val (H := H1) hy
  exact ⟨x, y, t, u, rfl, ht, hu, fun _ _ => q H1 (Ex.refl H1), (fun z => by rw [hx] at z; cases z), (fun _ z => by rw [hy] at z; cases z)⟩
theorem sp_at {a : At} {H : Hp} {x : V} {r : Int} (hx : isValB x = true) : SpV (sp_at_level a) [x, .int r] H (atV x (.int r)) := fun H1 e Q q E => by
  obtain ⟨t, ht⟩ := kn_val (H := H1) hx
  exact ⟨x, .int r, t, "int", rfl, ht, .int r, fun _ _ => q H1 (Ex.refl H1), (fun z => by rw [hx] at z; cases z), (fun _ z => by cases z)⟩
theorem atV_or (x r : V) : atV x r = .str "top" ∨ atV x r = .str "bottom" := by
  unfold atV
  split
  · exact .inl rfl
  · exact .inr rfl
theorem shows_bool (b : Bool) : Shows (.bool b) := sm_bool.shows (by decide) (by decide)
theorem intsOf_pair (x y : V) : ((intsOf [x, y]).map V.int).length ≤ 2 := by
  rw [List.length_map]
  exact ints_len _
section
variable {P : Program} {w : World} {K : PySem.W.Frag} {mg : Str → Option Value} {base : Heap} {a : At}
def sp__law_pairs_right (K : PySem.W.Frag) : Sp := fun vs H Q _ => ∃ (l : Addr) (xs : List V), vs = [.ref l] ∧ H l = some (.lst xs) ∧ (∀ x ∈ xs, InV x) ∧ xs.length ≤ 20 ∧ ∀ H', Ex H H' → Q (.bl true) H'
theorem ok__law_pairs_right (T : Txt K mg a) : Fn P w K mg base 5 a._law_pairs_right (sp__law_pairs_right K) := by
  have G_is_at_least : Fn P w K mg base 4 a.is_at_least (sp_is_at_least a) := ok_is_at_least T
  have G_at_level : Fn P w K mg base 4 a.at_level (sp_at_level a) := ok_at_level T
  have G__law_number : Fn P w K mg base 1 a._law_number sp__law_number := ok__law_number T
  refine T.d__law_pairs_right.fn sc__law_pairs_right (fun _ _ _ _ _ _ us hl => match us, hl with | [_], _ => rfl) (fun vs H Q E h => ?_) (fun cdv A outer s H vs Q E hg hr h => ?_)
  · obtain ⟨_, _, rfl, _⟩ := h
    rfl
  · obtain ⟨l, xs, rfl, hl, hx, hlen, q⟩ := h
    have nd := sc__law_pairs_right.nd
    have hu : (A.deeper _).units + 64 < cLine := hr.units
    refine ⟨_, (pss_cons (ps_for PassesOwn.leaving rfl (pi_list (pv 0)) (pg_name (i := 1) nd rfl (.inr rfl))
      (pss_one (ps_for PassesOwn.leaving rfl (pi_list (pv 0)) (pg_name (i := 2) nd rfl (.inr rfl))
          (pss_cons (ps_if (pt_cmpR op_ne (pe_callB (call_repr hg hu) (by rfl) T.z_repr (by decide +kernel) (pa_cons (pe_fn G_is_at_least hg (hr.mono (by decide)) T.d_is_at_least.kp T.d_is_at_least.m (by rfl) passL (pa_cons (pv 1) (pa_cons (pv 2) pa_nil))) pa_nil)) (pe_callB (call_repr hg hu) (by rfl) T.z_repr (by decide +kernel) (pa_cons (pe_cmpR op_ge (pe_fn G__law_number hg (hr.mono (by decide)) T.d__law_number.kp T.d__law_number.m (by rfl) passL (pa_cons (pv 1) pa_nil)) (pe_fn G__law_number hg (hr.mono (by decide)) T.d__law_number.kp T.d__law_number.m (by rfl) passL (pa_cons (pv 2) pa_nil)) (nomark _)) pa_nil)) (nomark _)) (pss_one (ps_ret pe_bl)) pss_nil)
            (pss_cons (ps_setLc (i := 3) (own := [("thing", 5)]) (g := gName 5) rfl (by exact nd) rfl rfl (by rfl) (pi_list (pe_lst (pa_cons (pv 1) (pa_cons (pv 2) pa_nil)))) (blkOk_by (own := [("thing", 5)]) (N := ["things", "one", "two", "marks", "near", "thing", "mark", "rank"]) (sc := defScope s__law_pairs_right) (by decide +kernel)) (fun _ _ _ _ _ => (pg_name (i := 5) nd rfl (.inl rfl))) (fun _ _ _ _ _ => (pts_one (pt_cmpR (op_notIn_seq : OpR _ (compareOp .NotIn) (rIn K true)) (pv 5) (pe_tup (pa_cons pe_str (pa_cons pe_str pa_nil))) (by rfl)))) (fun _ _ _ _ _ => (pv 5)))
            (pss_cons (ps_set (i := 4) nd rfl (.inl rfl) (pe_op op_cat (pe_op op_cat (pv 3) (pe_lc rfl (own := [("mark", 6)]) (g := gName 6) (by exact nd) (pi_list (pv 3)) (blkOk_by (own := [("mark", 6)]) (N := ["things", "one", "two", "marks", "near", "thing", "mark", "rank"]) (sc := defScope s__law_pairs_right) (by decide +kernel)) (fun _ _ _ _ _ => (pg_name (i := 6) nd rfl (.inl rfl))) (fun _ _ _ _ _ => pts_nil) (fun _ _ _ _ _ => (pe_op op_add (pv 6) pe_int)))) (pe_lst (pa_cons pe_int pa_nil))))
            (pss_one (ps_if (pt_cmpR op_ne (pe_callB (cr_all rfl) (by rfl) T.z_all (by decide +kernel) (pa_cons (pe_lc rfl (own := [("rank", 7)]) (g := gName 7) (by exact nd) (pi_list (pv 4)) (blkOk_by (own := [("rank", 7)]) (N := ["things", "one", "two", "marks", "near", "thing", "mark", "rank"]) (sc := defScope s__law_pairs_right) (by decide +kernel)) (fun _ _ _ _ _ => (pg_name (i := 7) nd rfl (.inl rfl))) (fun _ _ _ _ _ => pts_nil) (fun _ _ _ _ _ => (pe_cmpR op_eq (pe_fn G_at_level hg (hr.mono (by decide)) T.d_at_level.kp T.d_at_level.m (by rfl) passL (pa_cons (pv 1) (pa_cons (pv 7) pa_nil))) (pe_fn G_at_level hg (hr.mono (by decide)) T.d_at_level.kp T.d_at_level.m (by rfl) passL (pa_cons (pv 2) (pa_cons (pv 7) pa_nil))) (nomark _)))) pa_nil)) (pe_cmpR op_eq (pv 1) (pv 2) (nomark _)) (nomark _)) (pss_one (ps_ret pe_bl)) pss_nil))))))))
    (pss_one (ps_ret pe_bl))), ?_⟩
    have hs : SqL K H l xs := sq_of hl
    refine q_forLn (ev_var rfl) hs (fun i σ' H' => Ex H H' ∧ ∃ o t m n, σ' = [some (.ref l), o, t, m, n, none, none, none]) (fun H1 e => ⟨e, none, none, none, none, rfl⟩) (fun i σ' H' _ h => ex_l h.1 hs) ?_ (fun σ' H' h => q H' h.1)
    rintro i x σ1 H1 hi ⟨e1, o, t, m, n, rfl⟩
    have ix := hx x (List.mem_of_getElem? hi)
    refine s_forLn (ev_var rfl) (ex_l e1 hs) (fun i σ' H' => Ex H H' ∧ ∃ t m n, σ' = [some (.ref l), some x, t, m, n, none, none, none]) (fun H2 e2 => ⟨e1.trans e2, t, m, n, rfl⟩) (fun i σ' H' _ h => ex_l h.1 hs) ?_ (fun σ' H' h => ?_)
    · rintro j y σ2 H2 hj ⟨e2, t, m, n, rfl⟩
      have iy := hx y (List.mem_of_getElem? hj)
      have c1 : (V.str (PyData.shown (.bool (geB x y)))) = V.str (PyData.shown (.bool (decide (num y ≤ num x)))) := by rw [geB_num ix.bd iy.bd]
      refine q_when (b := false) ?_ (fun z => nomatch z) fun _ H3 e3 => ?_
      · refine et_is (et_test (ev_op (ev_repr (d := .bool (geB x y)) (ev_fn (ea_cons (ev_var rfl) (ea_cons (ev_var rfl) ea_nil)) (sp_least ix.val iy.val)) (fun _ _ => .bl _) (shows_bool _))
          (ev_repr (d := .bool (decide (num y ≤ num x))) (ev_op (ev_fn (ea_cons (ev_var rfl) ea_nil) (sp_num ix.val)) (ev_fn (ea_cons (ev_var rfl) ea_nil) (sp_num iy.val)) rv_I0) (fun _ _ => .bl _) (shows_bool _)) (rv_ne rfl))) ?_
        rw [decide_eq_true c1]
        rfl
      · refine q_asgL (el_intsN (K := K) (xs := [x, y]) (el_lst (ea_cons (ev_var rfl) (ea_cons (ev_var rfl) ea_nil)) (by show 2 ≤ 100000; decide)) (by simp) (fun z hz => ?_) (fun _ => rfl) (fun _ => rfl)) fun pm H4 hpm e4 h4 => ?_
        · simp only [List.mem_cons, List.not_mem_nil, or_false] at hz
          rcases hz with rfl | rfl
          · exact ix
          · exact iy
        have lm := intsOf_pair x y
        rw [List.length_map] at lm
        refine q_asgL (xs := (nearOf x y).map V.int) ?_ fun pn H5 hpn e5 h5 => ?_
        · have en : (nearOf x y).map V.int = ((intsOf [x, y]).map V.int ++ ((intsOf [x, y]).map V.int).map (fun v => .int (num v + 1))) ++ [.int 0] := by
            unfold nearOf
            rw [List.map_append, List.map_append, List.map_map, List.map_map]
            rfl
          rw [en]
          refine el_cat (of_el (el_cat (of_ev (ev_var rfl) h4) (el_map (fun v => .int (num v + 1)) (ev_var rfl) (sq_of h4) (by rw [List.length_map]; omega) (fun _ => rfl) (fun v hv H6 e6 => ?_)) ?_)) (el_lst (ea_cons ev_c ea_nil) (by decide)) ?_
          · obtain ⟨k, _, rfl⟩ := List.mem_map.mp hv
            exact ev_op (ev_var rfl) ev_c rv_I0
          · simp only [List.length_map]
            omega
          · simp only [List.length_map, List.length_append, List.length_cons, List.length_nil]
            omega
        · refine s_when (b := false) ?_ (fun z => nomatch z) fun _ H6 e6 => ?_
          · have em : (((nearOf x y).map V.int).map fun v => V.bl (decide (atV x v = atV y v))) = ((nearOf x y).map fun r => decide (atV x (.int r) = atV y (.int r))).map V.bl := by
              rw [List.map_map, List.map_map]
              rfl
            have hz : ((nearOf x y).map V.int).length ≤ 1000 := by
              unfold nearOf
              simp only [List.length_map, List.length_append, List.length_cons, List.length_nil]
              omega
            have L := el_map (K := K) (σ := [some (.ref l), some x, some y, some (.ref pm), some (.ref pn), none, none, none]) (H := H5) (tl := tVar 4) (j := 7) (te := tOp rEq (tFn (sp_at_level a) E0 (tCons (tVar 1) (tCons (tVar 7) tNil))) (tFn (sp_at_level a) E0 (tCons (tVar 2) (tCons (tVar 7) tNil)))) (fun v => V.bl (decide (atV x v = atV y v))) (ev_var rfl) (sq_of h5) hz (fun _ => rfl) (fun v hv H7 e7 => by
              obtain ⟨k, _, rfl⟩ := List.mem_map.mp hv
              refine ev_op (ev_fn (ea_cons (ev_var rfl) (ea_cons (ev_var rfl) ea_nil)) (sp_at ix.val)) (ev_fn (ea_cons (ev_var rfl) (ea_cons (ev_var rfl) ea_nil)) (sp_at iy.val)) (rv_eq ?_)
              rcases atV_or x (.int k) with z | z <;> rcases atV_or y (.int k) with z2 | z2 <;> rw [z, z2] <;> rfl)
            rw [em] at L
            refine et_is (et_test (ev_op (ev_all (K := K) L) (ev_op (ev_var rfl) (ev_var rfl) (rv_eq ?_)) (rv_ne rfl))) ?_
            · rcases ix with rfl | rfl | ⟨_, rfl, _⟩ <;> rcases iy with rfl | rfl | ⟨_, rfl, _⟩ <;> rfl
            · rw [marks_part ix iy, decide_eq_true rfl]
              rfl
          · exact ⟨(((e2.trans e3).trans e4).trans e5).trans e6, _, _, _, rfl⟩
    · obtain ⟨e2, t, m, n, rfl⟩ := h
      exact ⟨e2, _, _, _, _, rfl⟩
end
end K11
namespace K11
open PySem PySem.Spec PyProof.Rows L2 LG Evl
theorem desc_unique : ∀ (ns ms : List Int), ns.Pairwise (fun x y => y < x) → ms.Pairwise (fun x y => y < x) → (∀ k : Int, k ∈ ns ↔ k ∈ ms) → ns = ms
  | [], [], _, _, _ => rfl
  | [], m :: ms, _, _, h => absurd ((h m).mpr List.mem_cons_self) List.not_mem_nil
  | n :: ns, [], _, _, h => absurd ((h n).mp List.mem_cons_self) List.not_mem_nil
  | n :: ns, m :: ms, h1, h2, h => by
    obtain ⟨a1, a2⟩ := List.pairwise_cons.mp h1
    obtain ⟨b1, b2⟩ := List.pairwise_cons.mp h2
    have e : n = m := by
      rcases List.mem_cons.mp ((h n).mp List.mem_cons_self) with z | z
      · exact z
      · rcases List.mem_cons.mp ((h m).mpr List.mem_cons_self) with z2 | z2
        · exact z2.symm
        · have := b1 n z
          have := a1 m z2
          omega
    subst e
    refine congrArg (n :: ·) (desc_unique ns ms a2 b2 fun k => ?_)
    constructor
    · intro hk
      rcases List.mem_cons.mp ((h k).mp (List.mem_cons_of_mem _ hk)) with z | z
      · have := a1 k hk
        omega
      · exact z
    · intro hk
      rcases List.mem_cons.mp ((h k).mpr (List.mem_cons_of_mem _ hk)) with z | z
      · have := b1 k hk
        omega
      · exact z
theorem Desc.uniq {xs : List V} {ns ms : List Int} (a : Desc xs ns) (b : Desc xs ms) : ns = ms := desc_unique ns ms a.1 b.1 fun k => (a.2 k).trans (b.2 k).symm
theorem intsOf_iff {xs : List V} {k : Int} : k ∈ intsOf xs ↔ V.int k ∈ xs := ⟨mem_ints, fun h => List.mem_filterMap.mpr ⟨_, h, rfl⟩⟩
section
variable {K : PySem.W.Frag} {σ : L2.St} {H : Hp} {te ta tb : TE}
/-- int(b) -/
theorem rc_intB {k : Bool} : RC (fun xs H Q => (∃ i, xs = [V.int i] ∧ Q (V.int i) H) ∨ ∃ k, xs = [V.bl k] ∧ Q (.int (if k then 1 else 0)) H) [.bl k] H (.int (if k then 1 else 0)) := fun H1 _ Q q => .inr ⟨k, rfl, q H1 (Ex.refl H1)⟩
theorem atV_num {x : V} {r : Int} (hx : Bd x) (h1 : -big < r) (h2 : r < big) : atI [V.str "bottom", V.str "top"] (if decide (r ≤ num x) = true then 1 else 0) = some (atV x (.int r)) := by
  unfold atV
  rw [geB_num hx (bd_int h1 h2), num_int]
  by_cases c : r ≤ num x
  · rw [decide_eq_true c]
    rfl
  · rw [decide_eq_false c]
    rfl
theorem flat_at {x r : V} : flat1 (atV x r) = true := by
  rcases atV_or x r with z | z <;> rw [z] <;> rfl
theorem shows_at {x r : V} : Shows (dV (atV x r)) := by
  have s : Sm 0 240 (dV (atV x r)) := by
    rcases atV_or x r with z | z <;> rw [z] <;> exact sm_str (by decide +kernel) (by decide +kernel)
  exact s.shows (by decide) (by decide)
theorem shows_flats {xs : List V} {m : Nat} (h : ∀ x ∈ xs, Sm 0 240 (dV x)) (hl : xs.length ≤ 100) : Shows (.list (xs.map dV)) :=
  (sm_list (k := 0) (n := 240) (m := 100) (fun d hd => let ⟨x, hx, e⟩ := List.mem_map.mp hd; e ▸ h x hx) (by rw [List.length_map]; exact hl)).shows (by decide) (by decide)
/-- levels_of, where the integers are known -/
theorem sp_levels {a : At} {l : Addr} {xs : List V} {ns : List Int} (hl : H l = some (.lst xs) ∨ H l = some (.tup xs)) (hx : ∀ x ∈ xs, InV x) (hz : xs.length ≤ 40) (hn : Desc xs ns) : SpL (sp_levels_of a) [.ref l] H (ns.map V.int) := fun H1 e Q q E => by
  have main : ∀ t, Kn H1 (.ref l) t → (t == "list" || t == "tuple") = true → (∀ ys, (H1 l = some (.lst ys) ∨ H1 l = some (.tup ys)) → ys = xs) → sp_levels_of a [.ref l] H1 Q E := fun t ht hb hy =>
    ⟨.ref l, t, rfl, ht, (fun z => by rw [hb] at z; cases z), fun p ys ep hp => by
      cases ep
      have ey := hy ys hp
      subst ey
      refine ⟨fun x hm => (hx x hm).kn, hz, fun _ ms r H' hd hr e' h' => ?_, fun ⟨x, hm, z⟩ => ?_⟩
      · have en := hd.uniq hn
        subst en
        exact q r H' hr e' h'
      · rw [(hx x hm).val] at z
        cases z⟩
  rcases hl with hl | hl
  · have h1 := e l _ hl
    refine main _ (.lst h1) (by decide) fun ys hy => ?_
    rcases hy with z | z
    · rw [h1] at z
      cases z
      rfl
    · rw [h1] at z
      cases z
  · have h1 := e l _ hl
    refine main _ (.tup h1) (by decide) fun ys hy => ?_
    rcases hy with z | z
    · rw [h1] at z
      cases z
    · rw [h1] at z
      cases z
      rfl
/-- sorted(set(..))[::-1] -/
theorem q_due {w : World} {xs : List V} {i : Nat} {tz : TS} {D : Ends} (h : EvL te σ H ((intsOf xs).map V.int)) (hlen : xs.length ≤ 20) (k : ∀ (ns : List Int) (pd : Addr) (H3 : Hp), Desc xs ns → ns.length ≤ 20 → Ex H H3 → H3 pd = some (.lst (ns.map V.int)) → tz D (σ.set i (some (.ref pd))) H3) :
    tSeq (tAsg (tRevL K (tCB (rSortedSet w) (tCons (tCB (rSetL K w) (tCons te tNil)) tNil))) (gName i)) tz D σ H := h H (Ex.refl H) _ fun z2 H2 hz2 e2 h2 => by
  have il := ints_len xs
  refine ⟨z2, intsOf xs, rfl, sq_of h2, by omega, fun pS S n hpS hS hn => ⟨pS, S, n, rfl, upd_same, by omega, fun ns0 pn hns1 hns2 hns3 hpn => ⟨pn, _, rfl, sq_of upd_same, fun pd hpd => ?_⟩⟩⟩
  refine k ns0.reverse pd _ (desc_of hns1 hns2 fun k => (hS k).trans intsOf_iff) (by rw [List.length_reverse]; omega) (((e2.trans (Ex.new hpS)).trans (Ex.new hpn)).trans (Ex.new hpd)) ?_
  rw [upd_same, List.map_reverse]
theorem el_fn {sp : Sp} {vs xs : List V} {E : XK} {tv : TA} (h : EvA tv σ H vs) (hs : SpL sp vs H xs) : EvL (tFn sp E tv) σ H xs := fun H1 e Q q => h H1 e _ fun H2 e2 => hs H2 (e.trans e2) Q (fun p H3 hp e3 h3 => q p H3 (fresh_back e2 hp) (e2.trans e3) h3) E
end
section
variable {P : Program} {w : World} {K : PySem.W.Frag} {mg : Str → Option Value} {base : Heap} {a : At}
def sp__law_levels_right (K : PySem.W.Frag) : Sp := fun vs H Q _ => ∃ (p l : Addr) (xs : List V), vs = [.ref p, .ref l] ∧ Po p H ∧ H l = some (.lst xs) ∧ l ≠ p ∧ (∀ x ∈ xs, InV x) ∧ xs.length ≤ 20 ∧ ∀ H', Px p H H' → Q (.bl true) H'
theorem ok__law_levels_right (T : Txt K mg a) : Fn P w K mg base 5 a._law_levels_right (sp__law_levels_right K) := by
  have G__law_draw : Fn P w K mg base 1 a._law_draw sp__law_draw := ok__law_draw T
  have G_levels_of : Fn P w K mg base 4 a.levels_of (sp_levels_of a) := ok_levels_of T
  have G_at_level : Fn P w K mg base 4 a.at_level (sp_at_level a) := ok_at_level T
  have G__law_number : Fn P w K mg base 1 a._law_number sp__law_number := ok__law_number T
  obtain ⟨fdA, BA, FA⟩ := okB_at_level (P := P) (w := w) (base := base) T
  have hbA : ∀ ws : List Value, ws.length = 2 → bindArgs fdA ⟨[], (["value", "level"] : List Str).zip ws⟩ = pure ((["value", "level"] : List Str).zip ws) := fun ws hl => by
    obtain ⟨oc, od, kV, doc, pm, an, cdv, ct, osl, rfl, _, _⟩ := FA.ex
    match ws, hl with
    | [_, _], _ => rfl
  refine T.d__law_levels_right.fn sc__law_levels_right (fun _ _ _ _ _ _ us hl => match us, hl with | [_, _], _ => rfl) (fun vs H Q E h => ?_) (fun cdv A outer s H vs Q E hg hr h => ?_)
  · obtain ⟨_, _, _, rfl, _⟩ := h
    rfl
  · obtain ⟨p, l, xs, rfl, hp, hl, hlp, hx, hlen, q⟩ := h
    have nd := sc__law_levels_right.nd
    have hu : (A.deeper _).units + 64 < cLine := hr.units
    refine ⟨_, (pss_cons (ps_for PassesOwn.leaving rfl (pi_list (pe_op op_cat (pv 1) (pe_lst (pa_cons pe_str (pa_cons pe_str pa_nil))))) (pg_name (i := 2) nd rfl (.inl rfl))
      (pss_cons (ps_set (i := 6) nd rfl (.inl rfl) (pe_ifExp (pt_cmpR (op_notIn_seq : OpR _ (compareOp .NotIn) (rIn K true)) (pv 2) (pe_tup (pa_cons pe_str (pa_cons pe_str pa_nil))) (by rfl)) (pe_lst (pa_cons (pv 2) (pa_cons (pe_op op_add (pv 2) pe_int) (pa_cons (pe_op op_sub (pv 2) pe_int) pa_nil)))) (pe_lst pa_nil)))
        (pss_one (ps_for PassesOwn.leaving rfl (pi_list (pe_op op_cat (pv 6) (pe_lst (pa_cons pe_int (pa_cons (pe_op op_sub (pe_fn G__law_draw hg (hr.mono (by decide)) T.d__law_draw.kp T.d__law_draw.m (by rfl) passL (pa_cons (pv 0) (pa_cons pe_int pa_nil))) pe_int) (pa_cons (pe_op op_pow pe_int pe_int) (pa_cons (pe_un un_neg (pe_op op_pow pe_int pe_int)) pa_nil))))))) (pg_name (i := 7) nd rfl (.inl rfl))
          (pss_cons (ps_set (i := 3) nd rfl (.inl rfl) (pe_ix ix_list (pe_lst (pa_cons pe_str (pa_cons pe_str pa_nil))) (pe_callTy call_int1 (by rfl) T.z_int (by decide +kernel) (pa_cons (pe_cmpR op_ge (pe_fn G__law_number hg (hr.mono (by decide)) T.d__law_number.kp T.d__law_number.m (by rfl) passL (pa_cons (pv 2) pa_nil)) (pv 7) (nomark _)) pa_nil)) (fun _ _ => rfl)))
            (pss_one (ps_if (PW.pt (pw_or (pt_cmpR op_ne (pe_callB (call_repr hg hu) (by rfl) T.z_repr (by decide +kernel) (pa_cons (pe_fn G_at_level hg (hr.mono (by decide)) T.d_at_level.kp T.d_at_level.m (by rfl) passL (pa_cons (pv 2) (pa_cons (pv 7) pa_nil))) pa_nil)) (pe_callB (call_repr hg hu) (by rfl) T.z_repr (by decide +kernel) (pa_cons (pv 3) pa_nil)) (nomark _)) (pw_or1 (pt_cmpR op_ne (pe_callB (call_repr hg hu) (by rfl) T.z_repr (by decide +kernel) (pa_cons (pe_fnK0 (g := fun z => z) (ks := ["value", "level"]) BA hg (hr.mono (by decide)) T.d_at_level.kp T.d_at_level.m (by rfl) passL hbA (fun r hl => ⟨r, hl⟩) (pk_cons (pv 2) (pk_cons (pv 7) pk_nil))) pa_nil)) (pe_callB (call_repr hg hu) (by rfl) T.z_repr (by decide +kernel) (pa_cons (pv 3) pa_nil)) (nomark _))))) (pss_one (ps_ret pe_bl)) pss_nil)))))))
    (pss_cons (ps_set (i := 3) nd rfl (.inl rfl) (pe_revL (pe_callB (cr_sortedSet rfl) (by rfl) T.z_sorted (by decide +kernel) (pa_cons (pe_callTy (cr_setL rfl) (by rfl) T.z_set (by decide +kernel) (pa_cons (pe_lc rfl (own := [("one", 2)]) (g := gName 2) (by exact nd) (pi_list (pv 1)) (blkOk_by (own := [("one", 2)]) (N := ["pot", "things", "one", "due", "shown", "told", "own", "rank"]) (sc := defScope s__law_levels_right) (by decide +kernel)) (fun _ _ _ _ _ => (pg_name (i := 2) nd rfl (.inl rfl))) (fun _ _ _ _ _ => (pts_one (pt_cmpR (op_notIn_seq : OpR _ (compareOp .NotIn) (rIn K true)) (pv 2) (pe_tup (pa_cons pe_str (pa_cons pe_str pa_nil))) (by rfl)))) (fun _ _ _ _ _ => (pv 2))) pa_nil)) pa_nil))))
    (pss_cons (ps_set (i := 4) nd rfl (.inl rfl) (pe_callB (call_repr hg hu) (by rfl) T.z_repr (by decide +kernel) (pa_cons (pv 1) pa_nil)))
    (pss_cons (ps_set (i := 5) nd rfl (.inl rfl) (pe_fn G_levels_of hg (hr.mono (by decide)) T.d_levels_of.kp T.d_levels_of.m (by rfl) passL (pa_cons (pv 1) pa_nil)))
    (pss_cons (ps_if (PW.pt (pw_or (pt_cmpR op_ne (pe_callB (call_repr hg hu) (by rfl) T.z_repr (by decide +kernel) (pa_cons (pv 5) pa_nil)) (pe_callB (call_repr hg hu) (by rfl) T.z_repr (by decide +kernel) (pa_cons (pv 3) pa_nil)) (nomark _)) (pw_or1 (pt_cmpR op_ne (pe_callB (call_repr hg hu) (by rfl) T.z_repr (by decide +kernel) (pa_cons (pe_fn G_levels_of hg (hr.mono (by decide)) T.d_levels_of.kp T.d_levels_of.m (by rfl) passL (pa_cons (pe_callTy call_tuple_of (by rfl) T.z_tuple (by decide +kernel) (pa_cons (pv 1) pa_nil)) pa_nil)) pa_nil)) (pe_callB (call_repr hg hu) (by rfl) T.z_repr (by decide +kernel) (pa_cons (pv 3) pa_nil)) (nomark _))))) (pss_one (ps_ret pe_bl)) pss_nil)
    (pss_cons (ps_expr (pe_bm PySem.F.plainAttrs_list PySem.F.slot_list_append PySem.F.type_list_append mt_append (pv 5) (pa_cons pe_str pa_nil)))
    (pss_one (ps_ret (pe_and (pe_cmpR op_eq (pe_callB (call_repr hg hu) (by rfl) T.z_repr (by decide +kernel) (pa_cons (pe_fn G_levels_of hg (hr.mono (by decide)) T.d_levels_of.kp T.d_levels_of.m (by rfl) passL (pa_cons (pv 1) pa_nil)) pa_nil)) (pe_callB (call_repr hg hu) (by rfl) T.z_repr (by decide +kernel) (pa_cons (pv 3) pa_nil)) (nomark _)) (pe_one (pe_cmpR op_eq (pe_callB (call_repr hg hu) (by rfl) T.z_repr (by decide +kernel) (pa_cons (pv 1) pa_nil)) (pv 4) (nomark _)))))))))))), ?_⟩
    have hs : SqL K H l xs := sq_of hl
    refine q_forNLn (xs := xs ++ [.str "bottom", .str "top"]) (el_cat (of_ev (ev_var rfl) hl) (el_lst (ea_cons ev_c (ea_cons ev_c ea_nil)) (by decide)) (by simp only [List.length_cons, List.length_nil]; omega))
      (fun z i σ' H' => z ≠ p ∧ H' z = some (.lst (xs ++ [.str "bottom", .str "top"])) ∧ Px p H H' ∧ ∃ o d ow rk, σ' = [some (.ref p), some (.ref l), o, d, none, none, ow, rk]) (fun z H1 hz e h1 => ⟨hp.ne hz, h1, Px.of hp e, none, none, none, none, rfl⟩) (fun z i σ' H' _ h => sq_of h.2.1) ?_ ?_
    · rintro z i x σ1 H1 hi ⟨hzp, hz1, x1, o, d, ow, rk, rfl⟩
      have ix : InV x := by
        rcases List.mem_append.mp (List.mem_of_getElem? hi) with h | h
        · exact hx x h
        · simp only [List.mem_cons, List.not_mem_nil, or_false] at h
          rcases h with rfl | rfl
          · exact .inl rfl
          · exact .inr (.inl rfl)
      -- the ranks around x
      have own : ∃ ys : List V, ys.length ≤ 3 ∧ (∀ y ∈ ys, ∃ k : Int, y = .int k ∧ -big < k ∧ k < big) ∧ EvL (tIf (tTest (tOp (rIn K true) (tVar 2) (tTup (tCons (tC (.str "bottom")) (tCons (tC (.str "top")) tNil))))) (tLst (tCons (tVar 2) (tCons (tOp (rI0 fun i j => .int (i + j)) (tVar 2) (tC (.int 1))) (tCons (tOp (rI0 fun i j => .int (i - j)) (tVar 2) (tC (.int 1))) tNil)))) (tLst tNil)) [some (.ref p), some (.ref l), some x, d, none, none, ow, rk] H1 ys := by
        have tst : EvT (tTest (tOp (rIn K true) (tVar 2) (tTup (tCons (tC (.str "bottom")) (tCons (tC (.str "top")) tNil))))) [some (.ref p), some (.ref l), some x, d, none, none, ow, rk] H1 (isIntB x) := by
          rw [← notEnd ix]
          exact et_test (ev_niU (ev_var rfl) (eu_tup (ea_cons ev_c (ea_cons ev_c ea_nil)) (by decide)) (by rcases ix with rfl | rfl | ⟨i, rfl, _⟩ <;> rfl) rfl)
        have e60 : (10 : Nat) ^ 60 = 1000000000000000000000000000000000000000000000000000000000000 := by decide
        rcases ix with rfl | rfl | ⟨k, rfl, hk⟩
        · exact ⟨[], by decide, fun y hy => absurd hy List.not_mem_nil, fun H2 e Q' q' => tst H2 e _ fun H3 e3 => el_lst ea_nil (by decide) H3 (e.trans e3) Q' fun pp H4 hp4 e4 h4 => q' pp H4 (fresh_back e3 hp4) (e3.trans e4) h4⟩
        · exact ⟨[], by decide, fun y hy => absurd hy List.not_mem_nil, fun H2 e Q' q' => tst H2 e _ fun H3 e3 => el_lst ea_nil (by decide) H3 (e.trans e3) Q' fun pp H4 hp4 e4 h4 => q' pp H4 (fresh_back e3 hp4) (e3.trans e4) h4⟩
        · rw [e60] at hk
          refine ⟨[.int k, .int (k + 1), .int (k - 1)], (by show 3 ≤ 3; decide), fun y hy => ?_, fun H2 e Q' q' => tst H2 e _ fun H3 e3 => el_lst (ea_cons (ev_var rfl) (ea_cons (ev_op (ev_var rfl) ev_c rv_I0) (ea_cons (ev_op (ev_var rfl) ev_c rv_I0) ea_nil))) (by show 3 ≤ 100000; decide) H3 (e.trans e3) Q' fun pp H4 hp4 e4 h4 => q' pp H4 (fresh_back e3 hp4) (e3.trans e4) h4⟩
          simp only [List.mem_cons, List.not_mem_nil, or_false] at hy
          rcases hy with rfl | rfl | rfl
          · exact ⟨_, rfl, by rw [big_eq]; omega, by rw [big_eq]; omega⟩
          · exact ⟨_, rfl, by rw [big_eq]; omega, by rw [big_eq]; omega⟩
          · exact ⟨_, rfl, by rw [big_eq]; omega, by rw [big_eq]; omega⟩
      obtain ⟨ys, ylen, hy, hown⟩ := own
      refine q_asgL hown fun po H2 hpo e2 h2 => ?_
      have x2 : Px p H H2 := x1.ex e2
      refine ⟨.ref po, rfl, .ref p, rfl, p, 41, rfl, x2.2, by decide, by decide, fun dg H3 d0 d1 x3 => ⟨dg, 20, rfl, rfl, 10, 60, rfl, rfl, ⟨by decide, by decide, by decide⟩, 10, 59, rfl, rfl, ⟨by decide, by decide, by decide⟩, _, rfl, (by decide : 4 ≤ sizeLine), fun z2 hz2 => ?_⟩⟩
      have hpop : po ≠ p := x1.2.ne hpo
      have h3 : H3 po = some (.lst ys) := x3.1 po _ hpop h2
      refine ⟨po, z2, ys, _, rfl, rfl, Ex.new hz2 po _ h3, upd_same, sz_of (by simp only [List.length_cons, List.length_nil]; omega), fun z3 hz3 => ⟨z3, rfl, ⟨_, sq_of upd_same⟩, ?_⟩⟩
      have x4 : Px p H (upd (upd H3 z2 (.lst [.int 0, .int (dg - 20), .int (10 ^ (60 : Int).toNat), .int (-10 ^ (59 : Int).toNat)])) z3 (.lst (ys ++ [.int 0, .int (dg - 20), .int (10 ^ (60 : Int).toNat), .int (-10 ^ (59 : Int).toNat)]))) := ((x2.trans x3).ex (Ex.new hz2)).ex (Ex.new hz3)
      have hz3p : z3 ≠ p := ((x2.trans x3).ex (Ex.new hz2)).ne hz3
      have z4 : upd (upd H3 z2 (.lst [.int 0, .int (dg - 20), .int (10 ^ (60 : Int).toNat), .int (-10 ^ (59 : Int).toNat)])) z3 (.lst (ys ++ [.int 0, .int (dg - 20), .int (10 ^ (60 : Int).toNat), .int (-10 ^ (59 : Int).toNat)])) z = some (.lst (xs ++ [.str "bottom", .str "top"])) := ((x3.ex (Ex.new hz2)).ex (Ex.new hz3)).1 z _ hzp (e2 z _ hz1)
      refine for_list (K := K) (a := z3) (xs := ys ++ [.int 0, .int (dg - 20), .int (10 ^ (60 : Int).toNat), .int (-10 ^ (59 : Int).toNat)]) (fun i σ' H' => H' z3 = some (.lst (ys ++ [.int 0, .int (dg - 20), .int (10 ^ (60 : Int).toNat), .int (-10 ^ (59 : Int).toNat)])) ∧ H' z = some (.lst (xs ++ [.str "bottom", .str "top"])) ∧ Px p H H' ∧ ∃ d rk, σ' = [some (.ref p), some (.ref l), some x, d, none, none, some (.ref po), rk]) ⟨upd_same, z4, x4, d, rk, rfl⟩ (fun i σ' H' _ h => sq_of h.1) ?_ ?_
      · rintro j y σ2 H5 hj ⟨h5, hz5, x5, d, rk, rfl⟩
        have hyr : ∃ k : Int, y = .int k ∧ -big < k ∧ k < big := by
          rcases List.mem_append.mp (List.mem_of_getElem? hj) with h | h
          · exact hy y h
          · simp only [List.mem_cons, List.not_mem_nil, or_false] at h
            rcases h with rfl | rfl | rfl | rfl
            · exact ⟨_, rfl, by decide, by decide⟩
            · exact ⟨_, rfl, by rw [big_eq]; omega, by rw [big_eq]; omega⟩
            · exact ⟨_, rfl, by decide, by decide⟩
            · exact ⟨_, rfl, by decide, by decide⟩
        obtain ⟨k, rfl, k1, k2⟩ := hyr
        refine q_asg (v := atV x (.int k)) (ev_opL1 (el_lst (ea_cons ev_c (ea_cons ev_c ea_nil)) (by decide)) (fun H6 e6 => ev_cb (ea_cons (ev_op (ev_fn (ea_cons (ev_var rfl) ea_nil) (sp_num ix.val)) (ev_var rfl) rv_I0) ea_nil) rc_intB) fun pp H6 h6 e6 => rv_ixL (sq_of h6) (atV_num ix.bd k1 k2)) fun H6 e6 => ?_
        have same : ∀ v : V, decide (V.str (PyData.shown (dV v)) = V.str (PyData.shown (dV v))) = true := fun v => decide_eq_true rfl
        refine s_when (b := false) ?_ (fun z => nomatch z) fun _ H7 e7 => ?_
        · refine et_is (et_or (b := false) (et_test (ev_op (ev_repr (d := dV (atV x (.int k))) (ev_fn (ea_cons (ev_var rfl) (ea_cons (ev_var rfl) ea_nil)) (sp_at ix.val)) (fun _ _ => dp_flat flat_at) shows_at) (ev_repr (d := dV (atV x (.int k))) (ev_var rfl) (fun _ _ => dp_flat flat_at) shows_at) (rv_ne rfl))) (fun _ => et_is (et_test (ev_op (ev_repr (d := dV (atV x (.int k))) (v := atV x (.int k)) (fun H8 e8 Q8 q8 => ?_) (fun _ _ => dp_flat flat_at) shows_at) (ev_repr (d := dV (atV x (.int k))) (ev_var rfl) (fun _ _ => dp_flat flat_at) shows_at) (rv_ne rfl))) ?_)) ?_
          · refine ⟨x, rfl, .int k, rfl, rfl, ?_⟩
            exact sp_at ix.val H8 e8 Q8 q8 _
          · rw [same]
            rfl
          · rw [same]
            rfl
        · exact ⟨(e6.trans e7) z3 _ h5, (e6.trans e7) z _ hz5, x5.ex (e6.trans e7), _, _, rfl⟩
      · rintro σ2 H5 ⟨h5, hz5, x5, d, rk, rfl⟩
        exact ⟨hzp, hz5, x5, _, _, _, _, rfl⟩
    · rintro z σ1 H1 ⟨hzp, hz1, x1, o, d, ow, rk, rfl⟩
      have h1 : H1 l = some (.lst xs) := x1.1 l _ hlp hl
      -- due
      refine q_due (xs := xs) (el_ints (K := K) (l := l) (xs := xs) (ev_var rfl) (sq_of h1) (by omega) hx (fun _ => rfl) (fun _ => rfl)) hlen fun ns pd H3 D0 dl e3 hd3 => ?_
      have h3 : H3 l = some (.lst xs) := e3 l _ h1
      -- what repr shows
      have inx : ∀ n ∈ ns, n.natAbs < 10 ^ 60 := fun n hn => by
        rcases hx _ ((D0.2 n).mp hn) with z | z | ⟨i, z, hi⟩
        · cases z
        · cases z
        · cases z
          exact hi
      have shN : Shows (.list ((ns.map V.int).map dV)) := shows_flats (m := 0) (fun x hx => by
        obtain ⟨n, hn, rfl⟩ := List.mem_map.mp hx
        exact sm_int (Nat.lt_of_lt_of_le (inx n hn) (by decide))) (by rw [List.length_map]; omega)
      have shX : Shows (.list (xs.map dV)) := shows_flats (m := 0) (fun x h => (hx x h).sm) (by omega)
      have dpN : ∀ {q : Addr} {H' : Hp}, H' q = some (.lst (ns.map V.int)) → Dp K H' (.ref q) (.list ((ns.map V.int).map dV)) := fun h => .lst (sq_of h) (dpAll_flat fun x hx => by
        obtain ⟨n, hn, rfl⟩ := List.mem_map.mp hx
        rfl)
      have dpX : ∀ {H' : Hp}, H' l = some (.lst xs) → Dp K H' (.ref l) (.list (xs.map dV)) := fun h => .lst (sq_of h) (dpAll_flat fun x h => (hx x h).flat)
      refine q_asg (ev_repr (v := .ref l) (d := .list (xs.map dV)) (ev_var rfl) (fun H4 e4 => dpX (e4 l _ h3)) shX) fun H4 e4 => ?_
      have h4 := e4 l _ h3
      refine q_asgL (el_fn (ea_cons (ev_var rfl) ea_nil) (sp_levels (.inl h4) hx (by omega) D0)) fun pt H5 hpt e5 h5 => ?_
      have hd5 := e5 pd _ (e4 pd _ hd3)
      have h5l := e5 l _ h4
      have same : ∀ d : PyData, decide (V.str (PyData.shown d) = V.str (PyData.shown d)) = true := fun v => decide_eq_true rfl
      refine q_when (b := false) ?_ (fun z => nomatch z) fun _ H6 e6 => ?_
      · refine et_is (et_or (b := false) (et_test (ev_op (ev_repr (v := .ref pt) (d := .list ((ns.map V.int).map dV)) (ev_var rfl) (fun H7 e7 => dpN (e7 pt _ h5)) shN) (ev_repr (v := .ref pd) (d := .list ((ns.map V.int).map dV)) (ev_var rfl) (fun H7 e7 => dpN (e7 pd _ hd5)) shN) (rv_ne rfl)))
          (fun _ => et_is (et_test (ev_op (ev_reprL (d := .list ((ns.map V.int).map dV)) (fun H7 e7 Q7 q7 => ?_) (fun pp H7 e7 h7 => dpN h7) shN) (ev_repr (v := .ref pd) (d := .list ((ns.map V.int).map dV)) (ev_var rfl) (fun H7 e7 => dpN (e7 pd _ hd5)) shN) (rv_ne rfl))) ?_)) ?_
        · refine ⟨.ref l, rfl, l, xs, rfl, .inl ⟨sq_of (e7 l _ h5l), fun ptu hptu => ?_⟩⟩
          exact sp_levels (H := upd H7 ptu (.tup xs)) (.inr upd_same) hx (by omega) D0 _ (Ex.refl _) Q7 (fun pp H8 hpp e8 h8 => q7 pp H8 (fresh_back (Ex.new hptu) hpp) ((Ex.new hptu).trans e8) h8) _
        · rw [same]
          rfl
        · rw [same]
          rfl
      · have h6 := e6 pt _ h5
        have hptl : pt ≠ l := fun z => by
          rw [z, h4] at hpt
          cases hpt
        have hptd : pt ≠ pd := fun z => by
          rw [z, e4 pd _ hd3] at hpt
          cases hpt
        refine ⟨.ref pt, rfl, .inl ⟨rfl, _, sq_of h6⟩, pt, _, .str "more", rfl, rfl, h6, sz_lt (by rw [List.length_map]; omega), ?_⟩
        have e7 : Ex H4 (upd H6 pt (.lst (ns.map V.int ++ [.str "more"]))) := (e5.trans e6).mut hpt
        have h7l := e7 l _ h4
        have h7d := e7 pd _ (e4 pd _ hd3)
        dsimp only
        refine s_ret (D := { nx := fun _ H' => Q .non H', rt := Q }) (v := .bl true) ?_ fun H8 e8 => q H8 ((((x1.ex e3).ex e4).ex e7).ex e8)
        refine ev_is (ev_andV (a := true) (b := true) (ev_is (ev_op (ev_reprL (d := .list ((ns.map V.int).map dV)) (el_fn (ea_cons (ev_var rfl) ea_nil) (sp_levels (.inl h7l) hx (by omega) D0)) (fun pp H7 e7 h7 => dpN h7) shN) (ev_repr (v := .ref pd) (d := .list ((ns.map V.int).map dV)) (ev_var rfl) (fun H8 e8 => dpN (e8 pd _ h7d)) shN) (rv_eq rfl)) ?_) fun _ => ?_) rfl
        · rw [same]
        · refine ev_is (ev_op (ev_repr (v := .ref l) (d := .list (xs.map dV)) (ev_var rfl) (fun H8 e8 => dpX (e8 l _ h7l)) shX) (ev_var rfl) (rv_eq rfl)) ?_
          rw [same]
end
end K11
namespace K11
open PySem PySem.Spec PyProof.Rows L2 LG Evl
section
variable {K : PySem.W.Frag} {σ : L2.St} {H : Hp} {te ta tb : TE}
theorem ev_minsh {pn : Addr} {xs : List V} {E : XK} (h : Ev te σ H (.ref pn)) (hp : H pn = some (.lst ((xs.map num).map V.int))) (hne : 0 < xs.length) (hx : ∀ x ∈ xs, Bd x) : Ev (tFn sp__law_shown E (tCons (tCB (rMin K) (tCons te tNil)) tNil)) σ H (leastV xs) := fun H1 e Q q => h H1 e _ fun H2 e2 =>
  ⟨pn, xs.map num, rfl, sq_of (e2 pn _ (e pn _ hp)), by rw [List.length_map]; exact hne, fun m h1 h2 => ⟨m, rfl, fun H' e' => by
    rw [least_is hx h1 h2]
    exact q H' (e2.trans e')⟩⟩
theorem ev_maxsh {pn : Addr} {xs : List V} {E : XK} (h : Ev te σ H (.ref pn)) (hp : H pn = some (.lst ((xs.map num).map V.int))) (hne : 0 < xs.length) (hx : ∀ x ∈ xs, Bd x) : Ev (tFn sp__law_shown E (tCons (tCB (rMax K) (tCons te tNil)) tNil)) σ H (greatestV xs) := fun H1 e Q q => h H1 e _ fun H2 e2 =>
  ⟨pn, xs.map num, rfl, sq_of (e2 pn _ (e pn _ hp)), by rw [List.length_map]; exact hne, fun m h1 h2 => ⟨m, rfl, fun H' e' => by
    rw [greatest_is hx h1 h2]
    exact q H' (e2.trans e')⟩⟩
theorem el_if {t : TT} {b : Bool} {xs : List V} (h : EvT t σ H b) (h1 : b = true → EvL ta σ H xs) (h2 : b = false → EvL tb σ H xs) : EvL (tIf t ta tb) σ H xs := fun H1 e Q q => h H1 e _ fun H2 e2 => by
  cases b with
  | true => exact h1 rfl H2 (e.trans e2) Q fun p H3 hp e3 h3 => q p H3 (fresh_back e2 hp) (e2.trans e3) h3
  | false => exact h2 rfl H2 (e.trans e2) Q fun p H3 hp e3 h3 => q p H3 (fresh_back e2 hp) (e2.trans e3) h3
theorem fold_in {f : V → V → Bool} : ∀ (xs : List V) (z : V), InV z → (∀ x ∈ xs, InV x) → InV (xs.foldl (fun g v => if f g v = true then v else g) z)
  | [], _, h, _ => h
  | x :: xs, z, h, hx => by
    rw [List.foldl_cons]
    refine fold_in xs _ ?_ fun y hy => hx y (List.mem_cons_of_mem _ hy)
    by_cases e : f z x = true
    · rw [if_pos e]
      exact hx x List.mem_cons_self
    · rw [if_neg e]
      exact h
theorem least_in {xs : List V} (hx : ∀ x ∈ xs, InV x) : InV (leastV xs) := fold_in xs _ (.inr (.inl rfl)) hx
theorem greatest_in {xs : List V} (hx : ∀ x ∈ xs, InV x) : InV (greatestV xs) := fold_in (f := fun g v => geB v g) xs _ (.inl rfl) hx
theorem sp_ext1 {f : List V → V} {a : At} {xs : List V} (hx : ∀ x ∈ xs, InV x) (hz : xs.length ≤ 1000) : SpV (sp_extreme f a) xs H (f xs) := fun H1 e Q q E =>
  ⟨fun v hv => (hx v hv).kn, hz, fun _ H' e' => q H' e', fun i x hi _ h => by
    rw [(hx x (List.mem_of_getElem? hi)).val] at h
    cases h⟩
theorem sp_ext2 {a : At} {l : Addr} {xs : List V} {way : Int} (hw : way = 0 ∨ way = 1) (hl : H l = some (.lst xs)) (hx : ∀ x ∈ xs, InV x) (hz : xs.length ≤ 4) : SpV (sp__law_extreme K a) [.int way, .ref l] H (extV way xs) := fun H1 e Q q E =>
  ⟨way, l, xs, rfl, hw, sq_of (e l _ hl), hz, fun v hv => (hx v hv).kn, fun _ H' e' => q H' e', fun i x hi _ h => by
    rw [(hx x (List.mem_of_getElem? hi)).val] at h
    cases h⟩
theorem shows_pair {x y : V} (hx : InV x) (hy : InV y) : Shows (.list ([x, y].map dV)) := shows_flats (m := 0) (fun z hz => by
  simp only [List.mem_cons, List.not_mem_nil, or_false] at hz
  rcases hz with rfl | rfl
  · exact hx.sm
  · exact hy.sm) (by show 2 ≤ 100; decide)
theorem dp_pair {x y : V} {q : Addr} (hx : InV x) (hy : InV y) (h : H q = some (.lst [x, y])) : Dp K H (.ref q) (.list ([x, y].map dV)) := .lst (sq_of h) (dpAll_flat fun z hz => by
  simp only [List.mem_cons, List.not_mem_nil, or_false] at hz
  rcases hz with rfl | rfl
  · exact hx.flat
  · exact hy.flat)
end
theorem same_s (d : PyData) : decide (V.str (PyData.shown d) = V.str (PyData.shown d)) = true := decide_eq_true rfl
section
variable {P : Program} {w : World} {K : PySem.W.Frag} {mg : Str → Option Value} {base : Heap} {a : At}
def sp__law_extremes_right (K : PySem.W.Frag) : Sp := fun vs H Q _ => ∃ (l : Addr) (xs : List V), vs = [.ref l] ∧ H l = some (.lst xs) ∧ (∀ x ∈ xs, InV x) ∧ xs.length ≤ 4 ∧ ∀ H', Ex H H' → Q (.bl true) H'
theorem ok__law_extremes_right (T : Txt K mg a) : Fn P w K mg base 6 a._law_extremes_right (sp__law_extremes_right K) := by
  have G__law_number : Fn P w K mg base 1 a._law_number sp__law_number := ok__law_number T
  have G__law_shown : Fn P w K mg base 1 a._law_shown sp__law_shown := ok__law_shown T
  have G__law_extreme : Fn P w K mg base 5 a._law_extreme (sp__law_extreme K a) := ok__law_extreme T
  refine T.d__law_extremes_right.fn sc__law_extremes_right (fun _ _ _ _ _ _ us hl => match us, hl with | [_], _ => rfl) (fun vs H Q E h => ?_) (fun cdv A outer s H vs Q E hg hr h => ?_)
  · obtain ⟨_, _, rfl, _⟩ := h
    rfl
  · obtain ⟨l, xs, rfl, hl, hx, hlen, q⟩ := h
    have nd := sc__law_extremes_right.nd
    have hu : (A.deeper _).units + 64 < cLine := hr.units
    refine ⟨_, (pss_cons (ps_setLc (i := 1) (own := [("one", 3)]) (g := gName 3) rfl (by exact nd) rfl rfl (by rfl) (pi_list (pv 0)) (blkOk_by (own := [("one", 3)]) (N := ["some", "numbers", "due", "one"]) (sc := defScope s__law_extremes_right) (by decide +kernel)) (fun _ _ _ _ _ => (pg_name (i := 3) nd rfl (.inl rfl))) (fun _ _ _ _ _ => pts_nil) (fun _ _ _ _ _ => (pe_fn G__law_number hg (hr.mono (by decide)) T.d__law_number.kp T.d__law_number.m (by rfl) passL (pa_cons (pv 3) pa_nil))))
    (pss_cons (ps_set (i := 2) nd rfl (.inl rfl) (pe_ifExp (pt_cmpR (op_neD hu) (pv 0) (pe_lst pa_nil) (nomark _)) (pe_lst (pa_cons (pe_fn G__law_shown hg (hr.mono (by decide)) T.d__law_shown.kp T.d__law_shown.m (by rfl) passL (pa_cons (pe_callB (cr_min rfl) (by rfl) T.z_min (by decide +kernel) (pa_cons (pv 1) pa_nil)) pa_nil)) (pa_cons (pe_fn G__law_shown hg (hr.mono (by decide)) T.d__law_shown.kp T.d__law_shown.m (by rfl) passL (pa_cons (pe_callB (cr_max rfl) (by rfl) T.z_max (by decide +kernel) (pa_cons (pv 1) pa_nil)) pa_nil)) pa_nil))) (pe_lst (pa_cons pe_str (pa_cons pe_str pa_nil)))))
    (pss_one (ps_ret (pe_cmpR op_eq (pe_callB (call_repr hg hu) (by rfl) T.z_repr (by decide +kernel) (pa_cons (pe_lst (pa_cons (pe_fn G__law_extreme hg (hr.mono (by decide)) T.d__law_extreme.kp T.d__law_extreme.m (by rfl) passL (pa_cons pe_int (pa_cons (pv 0) pa_nil))) (pa_cons (pe_fn G__law_extreme hg (hr.mono (by decide)) T.d__law_extreme.kp T.d__law_extreme.m (by rfl) passL (pa_cons pe_int (pa_cons (pv 0) pa_nil))) pa_nil))) pa_nil)) (pe_callB (call_repr hg hu) (by rfl) T.z_repr (by decide +kernel) (pa_cons (pv 2) pa_nil)) (nomark _)))))), ?_⟩
    have bx : ∀ x ∈ xs, Bd x := fun x h => (hx x h).bd
    refine q_asgL (xs := xs.map fun v => .int (num v)) (el_map (K := K) (fun v => .int (num v)) (ev_var rfl) (sq_of hl) (by omega) (fun _ => rfl) fun x hm H1 e1 => ev_fn (ea_cons (ev_var rfl) ea_nil) (sp_num (hx x hm).val)) fun pn H1 hpn e1 h1 => ?_
    have h1' : H1 pn = some (.lst ((xs.map num).map V.int)) := by
      rw [h1, List.map_map]
      rfl
    have h1l := e1 l _ hl
    have fl : ∀ x ∈ xs, flat1 x = true := fun x h => (hx x h).flat
    refine q_asgL (xs := [leastV xs, greatestV xs]) (el_if (b := !(xs.map dV).isEmpty) ?_ (fun hb => ?_) fun hb => ?_) fun pd H2 hpd e2 h2 => ?_
    · rw [← eqv_nil]
      exact et_test (ev_opL (ev_var rfl) (el_lst ea_nil (by decide)) fun z H3 h3 e3 => rv_val fun H4 e4 Q4 q4 => ⟨.list (xs.map dV), .list [], .lst (sq_of (e4 l _ (e3 l _ h1l))) (dpAll_flat fl), .lst (sq_of (e4 z _ h3)) .nil, shaped_flat fun x h => .inl (hx x h), by decide +kernel, q4⟩)
    · have hne : 0 < xs.length := by
        cases xs with
        | nil => cases hb
        | cons _ _ => exact Nat.succ_pos _
      exact el_lst (ea_cons (ev_minsh (ev_var rfl) h1' hne bx) (ea_cons (ev_maxsh (ev_var rfl) h1' hne bx) ea_nil)) (by show 2 ≤ 100000; decide)
    · have hne : xs = [] := by
        cases xs with
        | nil => rfl
        | cons _ _ => cases hb
      subst hne
      exact el_lst (ea_cons ev_c (ea_cons ev_c ea_nil)) (by show 2 ≤ 100000; decide)
    · have h2l := e2 l _ h1l
      have il := least_in hx
      have ig := greatest_in hx
      refine s_ret (D := { nx := fun _ H' => Q .non H', rt := Q }) (v := .bl true) ?_ fun H3 e3 => q H3 ((e1.trans e2).trans e3)
      refine ev_is (ev_op (ev_reprL (d := .list ([leastV xs, greatestV xs].map dV)) (xs := [leastV xs, greatestV xs]) (el_lst (ea_cons (ev_fn (ea_cons ev_c (ea_cons (ev_var rfl) ea_nil)) (sp_ext2 (way := 0) (.inl rfl) h2l hx hlen)) (ea_cons (ev_fn (ea_cons ev_c (ea_cons (ev_var rfl) ea_nil)) (sp_ext2 (way := 1) (.inr rfl) h2l hx hlen)) ea_nil)) (by show 2 ≤ 100000; decide)) (fun p H3 e3 h3 => dp_pair il ig h3) (shows_pair il ig))
        (ev_repr (v := .ref pd) (d := .list ([leastV xs, greatestV xs].map dV)) (ev_var rfl) (fun H3 e3 => dp_pair il ig (e3 pd _ h2)) (shows_pair il ig)) (rv_eq rfl)) ?_
      rw [same_s]
def sp__law_eight_right : Sp := fun vs H Q _ => ∃ (p : Addr), vs = [.ref p] ∧ Po p H ∧ ∀ H', Px p H H' → Q (.bl true) H'
theorem ok__law_eight_right (T : Txt K mg a) : Fn P w K mg base 5 a._law_eight_right sp__law_eight_right := by
  have G__law_things : Fn P w K mg base 4 a._law_things sp__law_things := ok__law_things T
  have G__law_number : Fn P w K mg base 1 a._law_number sp__law_number := ok__law_number T
  have G__law_shown : Fn P w K mg base 1 a._law_shown sp__law_shown := ok__law_shown T
  have G_lesser_of : Fn P w K mg base 4 a.lesser_of (sp_extreme leastV a) := ok_lesser_of T
  have G_greater_of : Fn P w K mg base 4 a.greater_of (sp_extreme greatestV a) := ok_greater_of T
  refine T.d__law_eight_right.fn sc__law_eight_right (fun _ _ _ _ _ _ us hl => match us, hl with | [_], _ => rfl) (fun vs H Q E h => ?_) (fun cdv A outer s H vs Q E hg hr h => ?_)
  · obtain ⟨_, rfl, _⟩ := h
    rfl
  · obtain ⟨p, rfl, hp, q⟩ := h
    have nd := sc__law_eight_right.nd
    have hu : (A.deeper _).units + 64 < cLine := hr.units
    refine ⟨_, (pss_cons (ps_set (i := 1) nd rfl (.inl rfl) (pe_fn G__law_things hg (hr.mono (by decide)) T.d__law_things.kp T.d__law_things.m (by rfl) passL (pa_cons (pv 0) (pa_cons pe_int pa_nil))))
    (pss_cons (ps_setLc (i := 2) (own := [("one", 4)]) (g := gName 4) rfl (by exact nd) rfl rfl (by rfl) (pi_list (pv 1)) (blkOk_by (own := [("one", 4)]) (N := ["pot", "x", "numbers", "told", "one"]) (sc := defScope s__law_eight_right) (by decide +kernel)) (fun _ _ _ _ _ => (pg_name (i := 4) nd rfl (.inl rfl))) (fun _ _ _ _ _ => pts_nil) (fun _ _ _ _ _ => (pe_fn G__law_number hg (hr.mono (by decide)) T.d__law_number.kp T.d__law_number.m (by rfl) passL (pa_cons (pv 4) pa_nil))))
    (pss_cons (ps_set (i := 3) nd rfl (.inl rfl) (pe_lst (pa_cons (pe_fn G_lesser_of hg (hr.mono (by decide)) T.d_lesser_of.kp T.d_lesser_of.m (by rfl) passL (pa_cons (pe_ix ix_list (pv 1) pe_int (fun _ _ => rfl)) (pa_cons (pe_ix ix_list (pv 1) pe_int (fun _ _ => rfl)) (pa_cons (pe_ix ix_list (pv 1) pe_int (fun _ _ => rfl)) (pa_cons (pe_ix ix_list (pv 1) pe_int (fun _ _ => rfl)) (pa_cons (pe_ix ix_list (pv 1) pe_int (fun _ _ => rfl)) (pa_cons (pe_ix ix_list (pv 1) pe_int (fun _ _ => rfl)) (pa_cons (pe_ix ix_list (pv 1) pe_int (fun _ _ => rfl)) (pa_cons (pe_ix ix_list (pv 1) pe_int (fun _ _ => rfl)) pa_nil))))))))) pa_nil)))
    (pss_cons (ps_expr (pe_bm PySem.F.plainAttrs_list PySem.F.slot_list_append PySem.F.type_list_append mt_append (pv 3) (pa_cons (pe_fn G_greater_of hg (hr.mono (by decide)) T.d_greater_of.kp T.d_greater_of.m (by rfl) passL (pa_cons (pe_ix ix_list (pv 1) pe_int (fun _ _ => rfl)) (pa_cons (pe_ix ix_list (pv 1) pe_int (fun _ _ => rfl)) (pa_cons (pe_ix ix_list (pv 1) pe_int (fun _ _ => rfl)) (pa_cons (pe_ix ix_list (pv 1) pe_int (fun _ _ => rfl)) (pa_cons (pe_ix ix_list (pv 1) pe_int (fun _ _ => rfl)) (pa_cons (pe_ix ix_list (pv 1) pe_int (fun _ _ => rfl)) (pa_cons (pe_ix ix_list (pv 1) pe_int (fun _ _ => rfl)) (pa_cons (pe_ix ix_list (pv 1) pe_int (fun _ _ => rfl)) pa_nil))))))))) pa_nil)))
    (pss_one (ps_ret (pe_cmpR op_eq (pe_callB (call_repr hg hu) (by rfl) T.z_repr (by decide +kernel) (pa_cons (pv 3) pa_nil)) (pe_callB (call_repr hg hu) (by rfl) T.z_repr (by decide +kernel) (pa_cons (pe_lst (pa_cons (pe_fn G__law_shown hg (hr.mono (by decide)) T.d__law_shown.kp T.d__law_shown.m (by rfl) passL (pa_cons (pe_callB (cr_min rfl) (by rfl) T.z_min (by decide +kernel) (pa_cons (pv 2) pa_nil)) pa_nil)) (pa_cons (pe_fn G__law_shown hg (hr.mono (by decide)) T.d__law_shown.kp T.d__law_shown.m (by rfl) passL (pa_cons (pe_callB (cr_max rfl) (by rfl) T.z_max (by decide +kernel) (pa_cons (pv 2) pa_nil)) pa_nil)) pa_nil))) pa_nil)) (nomark _)))))))), ?_⟩
    refine ⟨.ref p, rfl, p, 8, rfl, hp, by decide, fun l xs H1 hl0 hlm hlen hx x1 hl => ?_⟩
    have bx : ∀ x ∈ xs, Bd x := fun x h => (hx x h).bd
    refine q_asgL (xs := xs.map fun v => .int (num v)) (el_map (K := K) (fun v => .int (num v)) (ev_var rfl) (sq_of hl) (by omega) (fun _ => rfl) fun x hm H2 e2 => ev_fn (ea_cons (ev_var rfl) ea_nil) (sp_num (hx x hm).val)) fun pn H2 hpn e2 h2 => ?_
    have h2' : H2 pn = some (.lst ((xs.map num).map V.int)) := by
      rw [h2, List.map_map]
      rfl
    have h2l := e2 l _ hl
    obtain ⟨y0, y1, y2, y3, y4, y5, y6, y7, rfl⟩ : ∃ y0 y1 y2 y3 y4 y5 y6 y7, xs = [y0, y1, y2, y3, y4, y5, y6, y7] := match xs, hlen with | [y0, y1, y2, y3, y4, y5, y6, y7], _ => ⟨y0, y1, y2, y3, y4, y5, y6, y7, rfl⟩
    have il := least_in hx
    have ig := greatest_in hx
    have args : ∀ (σ0 : L2.St) (H3 : Hp), σ0[1]? = some (some (.ref l)) → H3 l = some (.lst [y0, y1, y2, y3, y4, y5, y6, y7]) → EvA ((tCons (tOp (rIxL K) (tVar 1) (tC (.int 0))) (tCons (tOp (rIxL K) (tVar 1) (tC (.int 1))) (tCons (tOp (rIxL K) (tVar 1) (tC (.int 2))) (tCons (tOp (rIxL K) (tVar 1) (tC (.int 3))) (tCons (tOp (rIxL K) (tVar 1) (tC (.int 4))) (tCons (tOp (rIxL K) (tVar 1) (tC (.int 5))) (tCons (tOp (rIxL K) (tVar 1) (tC (.int 6))) (tCons (tOp (rIxL K) (tVar 1) (tC (.int 7))) tNil))))))))) σ0 H3 [y0, y1, y2, y3, y4, y5, y6, y7] := fun σ0 H3 hσ h3 =>
      (ea_cons (ev_op (ev_var hσ) ev_c (rv_ixL (sq_of h3) rfl)) (ea_cons (ev_op (ev_var hσ) ev_c (rv_ixL (sq_of h3) rfl)) (ea_cons (ev_op (ev_var hσ) ev_c (rv_ixL (sq_of h3) rfl)) (ea_cons (ev_op (ev_var hσ) ev_c (rv_ixL (sq_of h3) rfl)) (ea_cons (ev_op (ev_var hσ) ev_c (rv_ixL (sq_of h3) rfl)) (ea_cons (ev_op (ev_var hσ) ev_c (rv_ixL (sq_of h3) rfl)) (ea_cons (ev_op (ev_var hσ) ev_c (rv_ixL (sq_of h3) rfl)) (ea_cons (ev_op (ev_var hσ) ev_c (rv_ixL (sq_of h3) rfl)) ea_nil))))))))
    refine q_asgL (xs := [leastV [y0, y1, y2, y3, y4, y5, y6, y7]]) (el_lst (ea_cons (ev_fn (args _ _ rfl h2l) (sp_ext1 hx (by show 8 ≤ 1000; decide))) ea_nil) (by show 1 ≤ 100000; decide)) fun pt H3 hpt e3 h3 => ?_
    have h3l := e3 l _ h2l
    refine q_app (v := greatestV [y0, y1, y2, y3, y4, y5, y6, y7]) h3 (ev_var rfl) (ev_fn (args _ _ rfl h3l) (sp_ext1 hx (by show 8 ≤ 1000; decide))) (by show 1 < 100000; decide) fun H4 e4 => ?_
    have e5 : Ex H2 (upd H4 pt (.lst ([leastV [y0, y1, y2, y3, y4, y5, y6, y7]] ++ [greatestV [y0, y1, y2, y3, y4, y5, y6, y7]]))) := (e3.trans e4).mut hpt
    have h5 : upd H4 pt (.lst ([leastV [y0, y1, y2, y3, y4, y5, y6, y7]] ++ [greatestV [y0, y1, y2, y3, y4, y5, y6, y7]])) pt = some (.lst [leastV [y0, y1, y2, y3, y4, y5, y6, y7], greatestV [y0, y1, y2, y3, y4, y5, y6, y7]]) := upd_same
    have h5n := e5 pn _ h2'
    refine s_ret (D := { nx := fun _ H' => Q .non H', rt := Q }) (v := .bl true) ?_ fun H6 e6 => q H6 (((x1.ex e2).ex e5).ex e6)
    refine ev_is (ev_op (ev_repr (v := .ref pt) (d := .list ([leastV [y0, y1, y2, y3, y4, y5, y6, y7], greatestV [y0, y1, y2, y3, y4, y5, y6, y7]].map dV)) (ev_var rfl) (fun H6 e6 => dp_pair il ig (e6 pt _ h5)) (shows_pair il ig))
      (ev_reprL (d := .list ([leastV [y0, y1, y2, y3, y4, y5, y6, y7], greatestV [y0, y1, y2, y3, y4, y5, y6, y7]].map dV)) (xs := [leastV [y0, y1, y2, y3, y4, y5, y6, y7], greatestV [y0, y1, y2, y3, y4, y5, y6, y7]]) (el_lst (ea_cons (ev_minsh (ev_var rfl) h5n (by show 0 < 8; decide) bx) (ea_cons (ev_maxsh (ev_var rfl) h5n (by show 0 < 8; decide) bx) ea_nil)) (by show 2 ≤ 100000; decide)) (fun p H6 e6 h6 => dp_pair il ig h6) (shows_pair il ig)) (rv_eq rfl)) ?_
    rw [same_s]
end
end K11
namespace K11
open PySem PySem.Spec PyProof.Rows L2 LG Evl LamX
/-! ### what stays where lambdas are made: all but the pot and the tables -/
structure Rw (T : List (Addr × Str)) (p : Addr) (H H' : Hp) : Prop where
  w : Pw p H H'
  po : Po p H'
  tb : Tabs T H'
theorem codeO_lst {c : Addr} {q : Str} {xs : List V} : CodeO c q ≠ .lst xs := fun z => by
  unfold CodeO at z
  cases z
/-- one list changes, no table does -/
theorem tabs_but {T : List (Addr × Str)} {H H' : Hp} {q : Addr} {zs : List V} (hq : H q = some (.lst zs)) (e : ∀ b o, b ≠ q → H b = some o → H' b = some o) (t : Tabs T H) : Tabs T H' := fun x hx => by
  obtain ⟨ps, h1, h2, h3⟩ := t x hx
  refine ⟨ps, e _ _ (fun z => by rw [z, hq] at h1; cases h1) h1, h2, fun pos cv hc => ?_⟩
  obtain ⟨c, e1, e2⟩ := h3 pos cv hc
  refine ⟨c, e1, e _ _ (fun z => ?_) e2⟩
  rw [z, hq] at e2
  exact codeO_lst (Option.some.inj e2).symm
section
variable {T : List (Addr × Str)} {p : Addr} {H H1 H2 : Hp}
theorem Rw.refl (hp : Po p H) (ht : Tabs T H) : Rw T p H H := ⟨Pw.refl, hp, ht⟩
theorem Rw.trans (a : Rw T p H H1) (b : Rw T p H1 H2) : Rw T p H H2 := ⟨a.w.trans b.w, b.po, b.tb⟩
theorem Rw.ex (a : Rw T p H H1) (e : Ex H1 H2) : Rw T p H H2 := ⟨a.w.trans (Pw.of e), a.po.up e, a.tb.ext e⟩
theorem Rw.px (a : Rw T p H H1) (x : Px p H1 H2) : Rw T p H H2 := ⟨a.w.trans x.pw, x.2, by
  obtain ⟨c, d, h, _⟩ := a.po
  exact tabs_but h x.1 a.tb⟩
theorem Rw.ext (a : Rw T p H H1) (e : ExtN H1 H2) (t : Tabs T H2) : Rw T p H H2 := ⟨fun b o hb ho h => e b o (a.w b o hb ho h) ho, by
  obtain ⟨c, d, h, h2⟩ := a.po
  exact ⟨c, d, e _ _ h (fun ps z => by cases z), h2⟩, t⟩
/-- a list that H does not know changes -/
theorem Rw.mut {q : Addr} {xs zs : List V} (a : Rw T p H H1) (hq : H q = none) (hn : q ≠ p) (h1 : H1 q = some (.lst xs)) : Rw T p H (upd H1 q (.lst zs)) := ⟨fun b o hb ho h => by
  rw [upd_ne (ne_of_none h hq)]
  exact a.w b o hb ho h, by
  obtain ⟨c, d, h, h2⟩ := a.po
  exact ⟨c, d, by rw [upd_ne (Ne.symm hn)]; exact h, h2⟩, tabs_but h1 (fun b o hb h => by rw [upd_ne hb]; exact h) a.tb⟩
theorem Rw.get (a : Rw T p H H1) {q : Addr} {xs : List V} (hn : q ≠ p) (h : H q = some (.lst xs)) : H1 q = some (.lst xs) := a.w q _ hn (fun ps z => by cases z) h
theorem Rw.fresh (a : Rw T p H H1) {q : Addr} (h : H1 q = none) (ht : ∀ ps, H q ≠ some (.tbl ps)) : H q = none := by
  cases e : H q with
  | none => rfl
  | some o =>
    have hp : q ≠ p := a.po.ne h
    have z := a.w q o hp (fun ps z => ht ps (by rw [e, z])) e
    rw [h] at z
    cases z
end
/-- te tells v; what stands behind it is as Rw says -/
def EvW (T : List (Addr × Str)) (p : Addr) (te : TE) (σ : L2.St) (H : Hp) (v : V) : Prop := ∀ Q : VK, (∀ H2, Rw T p H H2 → Q v H2) → te σ H Q
section
variable {K : PySem.W.Frag} {T : List (Addr × Str)} {p : Addr} {σ : L2.St} {H : Hp} {te ta tb : TE} {v x y : V} {tu : TS} {tz : TS} {D : Ends} {a : At}
theorem evw_of (hp : Po p H) (ht : Tabs T H) (h : Ev te σ H v) : EvW T p te σ H v := fun Q q => h H (Ex.refl H) Q fun H2 e => q H2 ((Rw.refl hp ht).ex e)
theorem evw_ne (ha : EvW T p ta σ H x) (hb : ∀ H1, Rw T p H H1 → EvW T p tb σ H1 y) (hs : scal x y = true) : EvW T p (tOp rNe ta tb) σ H (.bl (!decide (x = y))) := fun Q q => ha _ fun H1 r1 => hb H1 r1 _ fun H2 r2 => ⟨hs, q H2 (r1.trans r2)⟩
theorem evw_eq (ha : EvW T p ta σ H x) (hb : ∀ H1, Rw T p H H1 → EvW T p tb σ H1 y) (hs : scal x y = true) : EvW T p (tOp rEq ta tb) σ H (.bl (decide (x = y))) := fun Q q => ha _ fun H1 r1 => hb H1 r1 _ fun H2 r2 => ⟨hs, q H2 (r1.trans r2)⟩
theorem evw_is {z : V} (h : EvW T p te σ H v) (e : v = z) : EvW T p te σ H z := e ▸ h
/-- an if without else, its test false -/
theorem w_if (h : EvW T p te σ H (.bl false)) (k : ∀ H1, Rw T p H H1 → tz D σ H1) : tSeq (tIfS (tTest te) tu tNext) tz D σ H := h _ fun H1 r => ⟨false, rfl, k H1 r⟩
theorem w_if2 {tf : TE} (h : EvW T p te σ H (.bl false)) (h2 : ∀ H1, Rw T p H H1 → EvW T p tf σ H1 (.bl false)) (k : ∀ H1, Rw T p H H1 → tz D σ H1) : tSeq (tIfS (tOr (tTest te) (tTest tf)) tu tNext) tz D σ H :=
  h _ fun H1 r => ⟨false, rfl, h2 H1 r _ fun H2 r2 => ⟨false, rfl, k H2 (r.trans r2)⟩⟩
/-- repr([kind, v, True]) -/
theorem evw_repr3 {kind : Str} {i : Nat} {d : PyData} (hp : Po p H) (ht : Tabs T H) (hσ : σ[i]? = some (some v)) (hd : ∀ H', Rw T p H H' → Dq K H' v d) (hs : Shows (.list [.str kind, d, .bool true])) :
    EvW T p (tCB (rRepr K) (tCons (tLstB (tCons (tC (.str kind)) (tCons (tVar i) (tCons (tC (.bl true)) tNil)))) tNil)) σ H (.str (PyData.shown (.list [.str kind, d, .bool true]))) := fun Q q =>
  ⟨v, hσ, (by decide : 3 ≤ sizeLine), fun z hz hm => ⟨.ref z, .list [.str kind, d, .bool true], rfl, .inl (.lst (sq_of upd_same) (.cons (.str _) (.cons (hd _ ((Rw.refl hp ht).ex (Ex.new hz))) (.cons (.bl true) .nil))) hm), hs, q _ ((Rw.refl hp ht).ex (Ex.new hz))⟩⟩
/-- _law_told(lambda: ..), the lambda lets an error of the class C out that bears v -/
theorem evw_told {t : XK → TE} {C : Addr} {kind : Str} {dat : PyData} (hp : Po p H) (htb : Tabs T H) (hk : (C = a.c_InvalidValue ∧ kind = "value") ∨ (C = a.c_InvalidValues ∧ kind = "values") ∨ (C = a.c_InvalidInteger ∧ kind = "integer")) (hsm : Sm 3 7000 dat)
    (hq : ∀ H', Rw T p H H' → Dq K H' v dat) (ht : ∀ (E : XK) (H2 : Hp), Rw T p H H2 → (∀ H3, Rw T p H H3 → Errs C v H3 E) → ∀ Q' : VK, t E σ H2 Q') :
    EvW T p (tLam T (TTold K a) t) σ H (.str (PyData.shown (.list [.str kind, dat, .bool true]))) := fun Q q => ⟨htb, fun H1 e1 t1 => ⟨C, kind, dat, hk, hsm, fun H2 e2 Q' => by
  have R1 : Rw T p H H1 := (Rw.refl hp htb).ext e1 t1
  exact ht _ H2 (R1.ex e2) (fun H3 R3 d H' e hd => ⟨d, v, rfl, rfl, hd, fun H4 e4 => hq H4 ((R3.ex e).ex e4), fun H4 e4 => q H4 ((R3.ex e).ex e4)⟩) Q'⟩⟩
theorem shows3 {kind : Str} {d : PyData} (hk : kind = "value" ∨ kind = "values" ∨ kind = "integer") (hd : Sm 3 7000 d) : Shows (.list [.str kind, d, .bool true]) := by
  have sk : Sm 0 240 (.str kind) := by
    rcases hk with rfl | rfl | rfl
    · exact sm_str (by decide +kernel) (by decide +kernel)
    · exact sm_str (by decide +kernel) (by decide +kernel)
    · exact sm_str (by decide +kernel) (by decide +kernel)
  refine (sm_list (ds := [.str kind, d, .bool true]) (k := 3) (n := 7000) (m := 3) (fun z hz => ?_) (Nat.le_refl 3)).shows (by decide) (by decide)
  simp only [List.mem_cons, List.not_mem_nil, or_false] at hz
  rcases hz with rfl | rfl | rfl
  · exact sk.mono (by decide) (by decide)
  · exact hd
  · exact sm_bool.mono (by decide) (by decide)
end
/-- what the lambda's body lets out -/
theorem passM {X : Cx} {A : Around} {outer : List Env} {s : Shared} {H : Hp} {E : XK} {scope : Scope} {f c' : Addr} : Passes (L2.CX (lamCx X A outer s H E scope f c').prog (lamCx X A outer s H E scope f c').w) (lamCx X A outer s H E scope f c') E := passes_call (takes_of rfl rfl rfl rfl) fun _ _ _ _ h => h
/-- _law_told(lambda: body) in the def of the lambdas -/
theorem pe_told {X : Cx} {a : At} {c P : Addr} {k : Nat} {params : Arguments} {body : Expr} {scope : Scope} {t : XK → TE} {p lpos pos : Pos} (T : Txt X.K X.mg a) (hg0 : X.A.guards = some []) (hgl : Gl X "_law_told") (TB : TabB X.base X.mg c P) (hcode : X.env.code = .ref c)
    (hq : X.env.qual ++ "<lambda>" = "_law_refused_right.<locals>.<lambda>") (hr : Room (k + 2) X.A) (L : LamS X.env.scope scope) (hdef : defaultsOf params X.env = ([], [])) (hbind : ∀ (q : Str) (cl : List (Str × Addr)) (pm cv ctv : Value), bindArgs (PySem.W.kla_fn "<lambda>" q params body scope cl pm cv ctv) ⟨[], []⟩ = pure [])
    (hbody : ∀ (A : Around) (outer : List Env) (s : Shared) (H : Hp) (E : XK) (f c' : Addr), A.guards = X.A.guards → Room k (A.deeper (lamEnv X scope s.heap.objs.size f c')) → PE (lamCx X A outer s H E scope f c') body (t E)) :
    PE X (.Call (.Name "_law_told" p) [.Lambda params body scope lpos] [] pos) (tLam [(P, "_law_refused_right.<locals>.<lambda>")] (TTold X.K a) t) := by
  obtain ⟨fd, F⟩ := T.d__law_told.F
  refine pe_lamG (Ng := ["act", "told", "e"]) hgl T.d__law_told.m F (F.binds fun _ _ _ _ _ _ us hl => match us, hl with | [_], _ => rfl) sc__law_told rfl (.inl rfl) (fun cdg _ => ?_) TB hcode ?_ (fun x hx _ => ?_) hr L hdef hbind hbody
  · rw [hq]
    exact told_gives T hg0 (hr.mono (by omega)) cdg _
  · rw [hq]
    exact List.mem_singleton.mpr rfl
  · rw [hq, List.mem_singleton.mp hx]
/-! ### a def whose code object is known -/
def codeAt (K : PySem.W.Frag) (f : Addr) : Option Value := (K.lookup f).bind fun o => match o.data with
  | .func fd => some fd.code
  | _ => none
theorem GFn.fnC {P : Program} {w : World} {K : PySem.W.Frag} {mg : Str → Option Value} {base : Heap} {x : Str} {st : Stmt} {f c : Addr} {N ps : List Str} {sp : Sp} {k : Nat} (g : GFn K mg x st f) (hc : codeAt K f = some (.ref c)) (S : FnScope N ps (defScope st))
    (hb : ∀ (kV doc pm : Value) (an : Option Addr) (cdv ct : Value) (us : List Value), us.length = ps.length → bindArgs (PySem.W.fnOf x x (defArgs st) (defBody st) (defScope st) .none kV doc pm an cdv ct) ⟨us, []⟩ = pure (ps.zip us))
    (len : ∀ vs H Q E, sp vs H Q E → vs.length = ps.length)
    (body : ∀ (A : Around) (outer : List Env) (s : Shared) (H : Hp) (vs : List V) (Q : VK) (E : XK), A.guards = some [] → Room k (A.deeper (envOfC x (defScope st) s.heap.objs.size f (.ref c))) → sp vs H Q E →
      ∃ t, PSs (cxOf (L2.CX P w) P w K mg base N x (defScope st) f (.ref c) A outer s H E) (defBody st) t ∧ t { nx := fun _ H' => Q .non H', rt := Q } (start N vs) H) : Fn P w K mg base (k + 1) f sp := by
  obtain ⟨fd, F⟩ := g.F
  have hbs := F.binds hb
  intro A outer s H us vs Q E hg hr e0 rv hsp
  obtain ⟨oc, od, kV, doc, pm, an, cdv, ct, osl, rfl, lk, hcd⟩ := F.ex
  have ec : cdv = .ref c := by
    unfold codeAt at hc
    rw [lk] at hc
    exact Option.some.inj hc
  subst ec
  have hl := len _ _ _ _ hsp
  have KX : K.In s.heap := e0.mod.kin.keeps fun b o e => (e0.bs b o e).1
  have hul : us.length = ps.length := by rw [← rv.length]; exact hl
  have hb' := hbs s us KX (by rw [List.append_nil]; exact hul)
  rw [List.append_nil] at hb'
  exact LamX.run_ofS lk hcd S hr e0 hb' rv hl fun hr' => body A outer s H vs Q E hg hr' hsp
end K11
namespace K11
open PySem PySem.Spec PyProof.Rows L2 LG Evl LamX
theorem first_bad {A B : List V} {b x : V} {i : Nat} (hA : ∀ z ∈ A, isValB z = true) (hb : isValB b = false) (hi : (A ++ b :: B)[i]? = some x) (before : ∀ j y, j < i → (A ++ b :: B)[j]? = some y → isValB y = true) (hx : isValB x = false) : x = b := by
  rcases Nat.lt_trichotomy i A.length with h | h | h
  · rw [List.getElem?_append_left h] at hi
    have z := hA x (List.mem_of_getElem? hi)
    rw [hx] at z
    cases z
  · subst h
    rw [List.getElem?_append_right (Nat.le_refl _), Nat.sub_self] at hi
    exact (Option.some.inj hi).symm
  · have z := before A.length b h (by rw [List.getElem?_append_right (Nat.le_refl _), Nat.sub_self]; rfl)
    rw [hb] at z
    cases z
section
variable {T : List (Addr × Str)} {p : Addr} {σ : L2.St} {H : Hp} {te : TE} {v : V} {tz : TS} {D : Ends} {K : PySem.W.Frag}
/-- x = [e] -/
theorem w_lst1 {i : Nat} (h : EvW T p te σ H v) (k : ∀ pt H8, Rw T p H H8 → H8 pt = none → tz D (σ.set i (some (.ref pt))) (upd H8 pt (.lst [v]))) : tSeq (tAsg (tLst (tCons te tNil)) (gName i)) tz D σ H := h _ fun H8 r8 => ⟨(by decide : 1 ≤ sizeLine), fun pt hpt => k pt H8 r8 hpt⟩
theorem w_ret (h : EvW T p te σ H v) (k : ∀ H2, Rw T p H H2 → D.rt v H2) : tRet te D σ H := h _ k
/-- x.append(e) -/
theorem w_app {i : Nat} {pt : Addr} {zs : List V} (hσ : σ[i]? = some (some (.ref pt))) (hp : H pt = some (.lst zs)) (hn : pt ≠ p) (hz : zs.length < 1000) (h : EvW T p te σ H v) (k : ∀ H8, Rw T p H H8 → H8 pt = some (.lst zs) → tz D σ (upd H8 pt (.lst (zs ++ [v])))) : tSeq (tDrop (tBM K "list" rAppend (tVar i) (tCons te tNil))) tz D σ H :=
  ⟨.ref pt, hσ, .inl ⟨rfl, zs, sq_of hp⟩, h _ fun H8 r8 => ⟨pt, zs, v, rfl, rfl, r8.get hn hp, sz_lt (by omega), k H8 r8 (r8.get hn hp)⟩⟩
/-- x != [e] * 3, x a list of three of them -/
theorem evw_three {i : Nat} {pt : Addr} {z : Str} (hσ : σ[i]? = some (some (.ref pt))) (hp : H pt = some (.lst [.str z, .str z, .str z])) (hn : pt ≠ p) (hok : PyData.canLay0 (.str z) = true) (h : EvW T p te σ H (.str z)) : EvW T p (tOp (rNeD K) (tVar i) (tOp rRep (tLst (tCons te tNil)) (tC (.int 3)))) σ H (.bl false) := fun Q q =>
  ⟨.ref pt, hσ, h _ fun H8 r8 => ⟨(by decide : 1 ≤ sizeLine), fun x hx => ⟨x, 3, [.str z], rfl, rfl, upd_same, by decide, by decide, (by decide : 1 * 3 ≤ sizeLine), fun y hy => by
    have h8 := r8.get hn hp
    have e : Ex H8 (upd (upd H8 x (.lst [.str z])) y (.lst (List.replicate (Int.toNat 3) [V.str z]).flatten)) := (Ex.new hx).trans (Ex.new hy)
    have hc : PyData.canLay0 (.list [.str z, .str z, .str z]) = true := by
      simp only [PyData.canLay0, PyData.canLayAll0] at hok ⊢
      rw [hok]
      rfl
    have hs : SeqAt.shaped (.list [.str z, .str z, .str z]) = true := by
      unfold SeqAt.shaped
      rw [hc]
      rfl
    refine ⟨.list [.str z, .str z, .str z], .list [.str z, .str z, .str z], .lst (sq_of (e pt _ h8)) (.cons (.str z) (.cons (.str z) (.cons (.str z) .nil))), .lst (sq_of upd_same) (.cons (.str z) (.cons (.str z) (.cons (.str z) .nil))), hs, hs, ?_⟩
    rw [SeqAt.eqv_refl _ hc]
    exact q _ (r8.ex e)⟩⟩⟩
end
/-- a list changes that a heap behind H does not know -/
theorem Rw.mut' {T : List (Addr × Str)} {p q : Addr} {H H8 H1 : Hp} {xs zs : List V} (a : Rw T p H H8) (hq : H8 q = none) (a1 : Rw T p H H1) (hn : q ≠ p) (h1 : H1 q = some (.lst xs)) : Rw T p H (upd H1 q (.lst zs)) := ⟨fun b o hb ho h => by
  rw [upd_ne (ne_of_none (a.w b o hb ho h) hq)]
  exact a1.w b o hb ho h, by
  obtain ⟨c, d, h, h2⟩ := a1.po
  exact ⟨c, d, by rw [upd_ne (Ne.symm hn)]; exact h, h2⟩, tabs_but h1 (fun b o hb h => by rw [upd_ne hb]; exact h) a1.tb⟩
/-! ### ranks and wrong lists -/
def Rk (K : PySem.W.Frag) (p : Addr) (H : Hp) (v : V) (d : PyData) : Prop := Sm 3 7000 d ∧ isIntB v = false ∧ ∀ H', Pw p H H' → (∃ t, Kn H' v t) ∧ Dq K H' v d
theorem Od.rk {K : PySem.W.Frag} {p : Addr} {H : Hp} {v : V} {d : PyData} (h : Od K p H v d) (hi : isIntB v = false) : Rk K p H v d := ⟨h.1.mono (by decide) (by decide), hi, h.2.2.2⟩
theorem kn_flat {H : Hp} {v : V} (h : flat1 v = true) : ∃ t, Kn H v t := by
  cases v with
  | int i => exact ⟨_, .int i⟩
  | str x => exact ⟨_, .str x⟩
  | bl b => exact ⟨_, .bl b⟩
  | non => exact ⟨_, .non⟩
  | _ => exact absurd (show false = true from h) Bool.false_ne_true
theorem rk_flat {K : PySem.W.Frag} {p : Addr} {H : Hp} {v : V} (h : flat1 v = true) (hs : Sm 0 240 (dV v)) (hi : isIntB v = false) : Rk K p H v (dV v) := ⟨hs.mono (by decide) (by decide), hi, fun H' _ => ⟨kn_flat h, dq_flat h⟩⟩
theorem Rk.up {K : PySem.W.Frag} {p : Addr} {H H' : Hp} {v : V} {d : PyData} (h : Rk K p H v d) (e : Pw p H H') : Rk K p H' v d := ⟨h.1, h.2.1, fun H2 e2 => h.2.2 H2 (e.trans e2)⟩
/-- no list of values: levels_of refuses it -/
def Wr (K : PySem.W.Frag) (a : At) (p : Addr) (H : Hp) (v : V) (d : PyData) : Prop := Sm 3 7000 d ∧ ∀ H', Pw p H H' → Dq K H' v d ∧ ∀ (Q : VK) (E : XK), Errs a.c_InvalidValues v H' E → sp_levels_of a [v] H' Q E
theorem Wr.up {K : PySem.W.Frag} {a : At} {p : Addr} {H H' : Hp} {v : V} {d : PyData} (h : Wr K a p H v d) (e : Pw p H H') : Wr K a p H' v d := ⟨h.1, fun H2 e2 => h.2 H2 (e.trans e2)⟩
theorem wr_flat {K : PySem.W.Frag} {a : At} {p : Addr} {H : Hp} {v : V} (h : flat1 v = true) (hs : Sm 0 240 (dV v)) : Wr K a p H v (dV v) := ⟨hs.mono (by decide) (by decide), fun H' _ => ⟨dq_flat h, fun Q E he => by
  cases v with
  | int i => exact ⟨_, _, rfl, .int i, fun _ => he, fun q xs e => by cases e⟩
  | str x => exact ⟨_, _, rfl, .str x, fun _ => he, fun q xs e => by cases e⟩
  | bl b => exact ⟨_, _, rfl, .bl b, fun _ => he, fun q xs e => by cases e⟩
  | non => exact ⟨_, _, rfl, .non, fun _ => he, fun q xs e => by cases e⟩
  | _ => exact absurd (show false = true from h) Bool.false_ne_true⟩⟩
theorem wr_dic {K : PySem.W.Frag} {a : At} {p q : Addr} {H : Hp} {kvs : List (Key × V)} {ds : List (PyData × PyData)} (hq : H q = some (.dK kvs)) (hp : q ≠ p) (hs : Sm 3 7000 (.dict ds)) (hd : ∀ H', DqKv K H' kvs ds) : Wr K a p H (.ref q) (.dict ds) := ⟨hs, fun H' e => by
  have z := e q _ hp (fun ps z => by cases z) hq
  refine ⟨.dic z (hd H'), fun Q E he => ⟨_, _, rfl, .dic z, fun _ => he, fun q2 xs e2 h2 => ?_⟩⟩
  cases e2
  rcases h2 with h2 | h2 <;> rw [z] at h2 <;> cases h2⟩
theorem wr_lst {K : PySem.W.Frag} {a : At} {p q : Addr} {H : Hp} {ws : List V} {ds : List PyData} (hq : H q = some (.lst ws)) (hp : q ≠ p) (hm : q ≠ sysModules) (hs : Sm 3 7000 (.list ds)) (hd : ∀ H', Pw p H H' → DqAll K H' ws ds ∧ ∀ v ∈ ws, ∃ t, Kn H' v t) (hl : ws.length ≤ 40) (hb : ∃ v ∈ ws, isValB v = false) : Wr K a p H (.ref q) (.list ds) := ⟨hs, fun H' e => by
  have z := e q _ hp (fun ps z => by cases z) hq
  refine ⟨.lst (sq_of z) (hd H' e).1 hm, fun Q E he => ⟨_, _, rfl, .lst z, fun _ => he, fun q2 xs e2 h2 => ?_⟩⟩
  cases e2
  have ex : xs = ws := by
    rcases h2 with h2 | h2
    · rw [z] at h2
      cases h2
      rfl
    · rw [z] at h2
      cases h2
  subst ex
  refine ⟨(hd H' e).2, hl, fun hv => ?_, fun _ => he⟩
  obtain ⟨v, h1, h2⟩ := hb
  rw [hv v h1] at h2
  cases h2⟩
theorem wr_tup {K : PySem.W.Frag} {a : At} {p q : Addr} {H : Hp} {ws : List V} {ds : List PyData} (hq : H q = some (.tup ws)) (hp : q ≠ p) (hs : Sm 3 7000 (.tuple ds)) (hd : ∀ H', Pw p H H' → DqAll K H' ws ds ∧ ∀ v ∈ ws, ∃ t, Kn H' v t) (hl : ws.length ≤ 40) (hb : ∃ v ∈ ws, isValB v = false) : Wr K a p H (.ref q) (.tuple ds) := ⟨hs, fun H' e => by
  have z := e q _ hp (fun ps z => by cases z) hq
  refine ⟨.tup (st_of z) (hd H' e).1, fun Q E he => ⟨_, _, rfl, .tup z, fun _ => he, fun q2 xs e2 h2 => ?_⟩⟩
  cases e2
  have ex : xs = ws := by
    rcases h2 with h2 | h2
    · rw [z] at h2
      cases h2
    · rw [z] at h2
      cases h2
      rfl
  subst ex
  refine ⟨(hd H' e).2, hl, fun hv => ?_, fun _ => he⟩
  obtain ⟨v, h1, h2⟩ := hb
  rw [hv v h1] at h2
  cases h2⟩
theorem dqAll_app {K : PySem.W.Frag} {H : Hp} : ∀ {xs : List V} {ds : List PyData} {ys : List V} {es : List PyData}, DqAll K H xs ds → DqAll K H ys es → DqAll K H (xs ++ ys) (ds ++ es)
  | _, _, _, _, .nil, h => h
  | _, _, _, _, .cons a r, h => .cons a (dqAll_app r h)
end K11
namespace K11
open PySem PySem.Spec PyProof.Rows L2 LG Evl LamX
section
variable {P : Program} {w : World} {K : PySem.W.Frag} {mg : Str → Option Value} {base : Heap} {a : At}
def lamT (Pt : Addr) : List (Addr × Str) := [(Pt, "_law_refused_right.<locals>.<lambda>")]
def sp__law_refused_right (Pt : Addr) : Sp := fun vs H Q _ => ∃ (p l : Addr) (xs : List V), vs = [.ref p, .ref l] ∧ Po p H ∧ Tabs (lamT Pt) H ∧ H l = some (.lst xs) ∧ l ≠ p ∧ (∀ x ∈ xs, InV x) ∧ xs.length ≤ 8 ∧ ∀ H', Rw (lamT Pt) p H H' → Q (.bl true) H'
theorem ok__law_refused_right (T : Txt K mg a) {c Pt : Addr} (hC : codeAt K a._law_refused_right = some (.ref c)) (TB : TabB base mg c Pt) : Fn P w K mg base 8 a._law_refused_right (sp__law_refused_right Pt) := by
  have G__law_draw : Fn P w K mg base 1 a._law_draw sp__law_draw := ok__law_draw T
  have G__law_pick : Fn P w K mg base 2 a._law_pick sp__law_pick := ok__law_pick T
  have G__law_odd : Fn P w K mg base 3 a._law_odd (sp__law_odd K) := ok__law_odd T
  have G_is_value : Fn P w K mg base 2 a.is_value sp_is_value := ok_is_value T
  have G_is_at_least : Fn P w K mg base 4 a.is_at_least (sp_is_at_least a) := ok_is_at_least T
  have G_at_level : Fn P w K mg base 4 a.at_level (sp_at_level a) := ok_at_level T
  have G_levels_of : Fn P w K mg base 4 a.levels_of (sp_levels_of a) := ok_levels_of T
  have G__law_extreme : Fn P w K mg base 5 a._law_extreme (sp__law_extreme K a) := ok__law_extreme T
  refine T.d__law_refused_right.fnC hC sc__law_refused_right (fun _ _ _ _ _ _ us hl => match us, hl with | [_, _], _ => rfl) (fun vs H Q E h => ?_) (fun A outer s H vs Q E hg hr h => ?_)
  · obtain ⟨_, _, _, rfl, _⟩ := h
    rfl
  · obtain ⟨p, l, xs, rfl, hp, ht, hl, hlp, hx, hlen, q⟩ := h
    have nd := sc__law_refused_right.nd
    have hu : (A.deeper _).units + 64 < cLine := hr.units
    refine ⟨_, (pss_cons (ps_asg (pe_tup (pa_cons (pe_fn G__law_odd hg (hr.mono (by decide)) T.d__law_odd.kp T.d__law_odd.m (by rfl) passL (pa_cons (pv 0) pa_nil)) (pa_cons (pe_fn G__law_odd hg (hr.mono (by decide)) T.d__law_odd.kp T.d__law_odd.m (by rfl) passL (pa_cons (pv 0) pa_nil)) pa_nil))) (pg_tup (by rfl) (pgs_cons (pg_name (i := 6) nd rfl (.inr rfl)) (pgs_cons (pg_name (i := 7) nd rfl (.inr rfl)) pgs_nil))))
    (pss_cons (ps_set (i := 2) nd rfl (.inr rfl) (pe_slice sl_list (pv 1) po_none (po_some pe_int)))
    (pss_cons (ps_expr (pe_bm PySem.F.plainAttrs_list PySem.F.slot_list_insert PySem.F.type_list_insert mt_insert (pv 2) (pa_cons (pe_fn G__law_draw hg (hr.mono (by decide)) T.d__law_draw.kp T.d__law_draw.m (by rfl) passL (pa_cons (pv 0) (pa_cons (pe_op op_add (pe_callB call_len_seq (by rfl) T.z_len (by decide +kernel) (pa_cons (pv 2) pa_nil)) pe_int) pa_nil))) (pa_cons (pv 6) pa_nil))))
    (pss_cons (ps_if (pt_cmpR op_ne (pe_told (k := 5) (t := fun E => tFn (sp__law_extreme K a) E (tCons (tC (.int 0)) (tCons (tOp rCat (tVar 2) (tLst (tCons (tVar 7) tNil))) tNil))) T hg (by rfl) TB rfl rfl (hr.mono (by decide)) (lamS_by (by rfl)) (by rfl) (fun _ _ _ _ _ => rfl) (fun A' o' s' H' E' f' c' hA hR => (pe_fn G__law_extreme (hA.trans hg) (hR.mono (by decide)) T.d__law_extreme.kp T.d__law_extreme.m (by rfl) passM (pa_cons pe_int (pa_cons (pe_op op_cat (pv 2) (pe_lst (pa_cons (pv 7) pa_nil))) pa_nil))))) (pe_callB (call_repr hg hu) (by rfl) T.z_repr (by decide +kernel) (pa_cons (pe_lstB (pa_cons pe_str (pa_cons (pv 6) (pa_cons pe_bl pa_nil)))) pa_nil)) (nomark _)) (pss_one (ps_ret pe_bl)) pss_nil)
    (pss_cons (ps_if (PW.pt (pw_or (pt_cmpR op_ne (pe_told (k := 5) (t := fun E => tFn (sp__law_extreme K a) E (tCons (tC (.int 1)) (tCons (tVar 2) tNil))) T hg (by rfl) TB rfl rfl (hr.mono (by decide)) (lamS_by (by rfl)) (by rfl) (fun _ _ _ _ _ => rfl) (fun A' o' s' H' E' f' c' hA hR => (pe_fn G__law_extreme (hA.trans hg) (hR.mono (by decide)) T.d__law_extreme.kp T.d__law_extreme.m (by rfl) passM (pa_cons pe_int (pa_cons (pv 2) pa_nil))))) (pe_callB (call_repr hg hu) (by rfl) T.z_repr (by decide +kernel) (pa_cons (pe_lstB (pa_cons pe_str (pa_cons (pv 6) (pa_cons pe_bl pa_nil)))) pa_nil)) (nomark _)) (pw_or1 (pt_cmpR op_ne (pe_callB (call_repr hg hu) (by rfl) T.z_repr (by decide +kernel) (pa_cons (pe_fn G_is_value hg (hr.mono (by decide)) T.d_is_value.kp T.d_is_value.m (by rfl) passL (pa_cons (pv 6) pa_nil)) pa_nil)) pe_str (nomark _))))) (pss_one (ps_ret pe_bl)) pss_nil)
    (pss_cons (ps_set (i := 3) nd rfl (.inl rfl) (pe_lst (pa_cons (pe_told (k := 5) (t := fun E => tFn (sp_is_at_least a) E (tCons (tVar 6) (tCons (tVar 7) tNil))) T hg (by rfl) TB rfl rfl (hr.mono (by decide)) (lamS_by (by rfl)) (by rfl) (fun _ _ _ _ _ => rfl) (fun A' o' s' H' E' f' c' hA hR => (pe_fn G_is_at_least (hA.trans hg) (hR.mono (by decide)) T.d_is_at_least.kp T.d_is_at_least.m (by rfl) passM (pa_cons (pv 6) (pa_cons (pv 7) pa_nil))))) pa_nil)))
    (pss_cons (ps_expr (pe_bm PySem.F.plainAttrs_list PySem.F.slot_list_append PySem.F.type_list_append mt_append (pv 3) (pa_cons (pe_told (k := 5) (t := fun E => tFn (sp_is_at_least a) E (tCons (tC (.int 3)) (tCons (tVar 6) tNil))) T hg (by rfl) TB rfl rfl (hr.mono (by decide)) (lamS_by (by rfl)) (by rfl) (fun _ _ _ _ _ => rfl) (fun A' o' s' H' E' f' c' hA hR => (pe_fn G_is_at_least (hA.trans hg) (hR.mono (by decide)) T.d_is_at_least.kp T.d_is_at_least.m (by rfl) passM (pa_cons pe_int (pa_cons (pv 6) pa_nil))))) pa_nil)))
    (pss_cons (ps_expr (pe_bm PySem.F.plainAttrs_list PySem.F.slot_list_append PySem.F.type_list_append mt_append (pv 3) (pa_cons (pe_told (k := 5) (t := fun E => tFn (sp_at_level a) E (tCons (tVar 6) (tCons (tC (.str "top")) tNil))) T hg (by rfl) TB rfl rfl (hr.mono (by decide)) (lamS_by (by rfl)) (by rfl) (fun _ _ _ _ _ => rfl) (fun A' o' s' H' E' f' c' hA hR => (pe_fn G_at_level (hA.trans hg) (hR.mono (by decide)) T.d_at_level.kp T.d_at_level.m (by rfl) passM (pa_cons (pv 6) (pa_cons pe_str pa_nil))))) pa_nil)))
    (pss_cons (ps_if (pt_cmpR (op_neD hu) (pv 3) (pe_op op_rep (pe_lst (pa_cons (pe_callB (call_repr hg hu) (by rfl) T.z_repr (by decide +kernel) (pa_cons (pe_lstB (pa_cons pe_str (pa_cons (pv 6) (pa_cons pe_bl pa_nil)))) pa_nil)) pa_nil)) pe_int) (nomark _)) (pss_one (ps_ret pe_bl)) pss_nil)
    (pss_cons (ps_set (i := 4) nd rfl (.inr rfl) (pe_fn G__law_pick hg (hr.mono (by decide)) T.d__law_pick.kp T.d__law_pick.m (by rfl) passL (pa_cons (pv 0) (pa_cons (pe_lst (pa_cons pe_str (pa_cons pe_str (pa_cons pe_bl (pa_cons pe_bl (pa_cons pe_non (pa_cons pe_str (pa_cons (pe_lstB (pa_cons pe_int pa_nil)) (pa_cons (pe_tup (pa_cons pe_int pa_nil)) (pa_cons pe_dnewK pa_nil)))))))))) pa_nil))))
    (pss_cons (ps_if (pt_cmpR op_ne (pe_told (k := 5) (t := fun E => tFn (sp_at_level a) E (tCons (tFn sp__law_pick E0 (tCons (tVar 0) (tCons (tLst (tCons (tC (.str "top")) (tCons (tC (.int 5)) (tCons (tUn (rU fun i => .int (-i)) (tOp (rI CPow fun i j => .int (i ^ j.toNat)) (tC (.int 10)) (tC (.int 40)))) tNil)))) tNil))) (tCons (tVar 4) tNil))) T hg (by rfl) TB rfl rfl (hr.mono (by decide)) (lamS_by (by rfl)) (by rfl) (fun _ _ _ _ _ => rfl) (fun A' o' s' H' E' f' c' hA hR => (pe_fn G_at_level (hA.trans hg) (hR.mono (by decide)) T.d_at_level.kp T.d_at_level.m (by rfl) passM (pa_cons (pe_fn G__law_pick (hA.trans hg) (hR.mono (by decide)) T.d__law_pick.kp T.d__law_pick.m (by rfl) passL (pa_cons (pv 0) (pa_cons (pe_lst (pa_cons pe_str (pa_cons pe_int (pa_cons (pe_un un_neg (pe_op op_pow pe_int pe_int)) pa_nil)))) pa_nil))) (pa_cons (pv 4) pa_nil))))) (pe_callB (call_repr hg hu) (by rfl) T.z_repr (by decide +kernel) (pa_cons (pe_lstB (pa_cons pe_str (pa_cons (pv 4) (pa_cons pe_bl pa_nil)))) pa_nil)) (nomark _)) (pss_one (ps_ret pe_bl)) pss_nil)
    (pss_cons (ps_set (i := 5) nd rfl (.inr rfl) (pe_fn G__law_pick hg (hr.mono (by decide)) T.d__law_pick.kp T.d__law_pick.m (by rfl) passL (pa_cons (pv 0) (pa_cons (pe_lst (pa_cons pe_non (pa_cons pe_int (pa_cons pe_str (pa_cons pe_dnewK (pa_cons (pe_disp (pps_cons pe_int pe_int pps_nil) (by rfl) (by rfl) (fun z => by cases z) (by decide)) (pa_cons pe_bl (pa_cons (pe_op op_catB (pv 1) (pe_lst (pa_cons (pv 6) pa_nil))) (pa_cons (pe_callTy call_tuple_of (by rfl) T.z_tuple (by decide +kernel) (pa_cons (pe_op op_cat (pe_lst (pa_cons (pv 6) pa_nil)) (pv 1)) pa_nil)) (pa_cons (pe_lstB (pa_cons (pv 6) (pa_cons (pv 7) pa_nil))) pa_nil)))))))))) pa_nil))))
    (pss_one (ps_ret (pe_cmpR op_eq (pe_told (k := 5) (t := fun E => tFn (sp_levels_of a) E (tCons (tVar 5) tNil)) T hg (by rfl) TB rfl rfl (hr.mono (by decide)) (lamS_by (by rfl)) (by rfl) (fun _ _ _ _ _ => rfl) (fun A' o' s' H' E' f' c' hA hR => (pe_fn G_levels_of (hA.trans hg) (hR.mono (by decide)) T.d_levels_of.kp T.d_levels_of.m (by rfl) passM (pa_cons (pv 5) pa_nil)))) (pe_callB (call_repr hg hu) (by rfl) T.z_repr (by decide +kernel) (pa_cons (pe_lstB (pa_cons pe_str (pa_cons (pv 5) (pa_cons pe_bl pa_nil)))) pa_nil)) (nomark _)))))))))))))))), ?_⟩
    let TT := lamT Pt
    have r0 : Rw TT p H H := Rw.refl hp ht
    refine ⟨.ref p, rfl, p, rfl, hp, fun v1 d1 H1 o1 x1 => ⟨.ref p, rfl, p, rfl, x1.2, fun v2 d2 H2 o2 x2 => ⟨(by decide : 2 ≤ sizeLine), fun tt htt => ⟨tt, _, rfl, st_of upd_same, rfl, _, _, rfl, _, _, rfl, rfl, ?_⟩⟩⟩⟩
    have r2 : Rw TT p H (upd H2 tt (.tup [v1, v2])) := (r0.px (x1.trans x2)).ex (Ex.new htt)
    have hGl := r2.get hlp hl
    refine q_asgL (el_sl (ev_var rfl) eo_none (eo_some ev_c) (sq_of hGl)) fun ls H3 hls e3 h3 => ?_
    have hzx : ∀ z ∈ cutV xs none (some 2), InV z := fun z hz => hx z (List.mem_of_mem_drop (List.mem_of_mem_take hz))
    have hzl : (cutV xs none (some 2)).length ≤ 2 := by
      unfold cutV
      rw [List.length_take]
      have e2 : HT.sIx xs.length xs.length (some 2) = min 2 xs.length := HT.sIx_nat xs.length xs.length 2
      rw [e2]
      omega
    generalize cutV xs none (some 2) = zs at h3 hzx hzl
    have r3 := r2.ex e3
    have hlsp : ls ≠ p := r2.po.ne hls
    refine ⟨.ref ls, rfl, .inl ⟨rfl, zs, sq_of h3⟩, .ref p, rfl, .ref ls, rfl, ls, zs, rfl, .inl (sq_of h3), _, 1, rfl, rfl, p, _, rfl, r3.po, by omega, by omega, fun dg H4 dg0 dg1 x4 => ⟨v1, rfl, ls, zs, dg, v1, rfl, rfl, x4.1 ls _ hlsp h3, sz_lt (by omega), dg0, by omega, ?_⟩⟩
    have hls0 : H ls = none := (x1.trans x2).fresh (fresh_back (Ex.new htt) hls)
    have h4 : H4 ls = some (.lst zs) := x4.1 ls _ hlsp h3
    have r5 : Rw TT p H (upd H4 ls (.lst (zs.take dg.toNat ++ [v1] ++ zs.drop dg.toNat))) := (r3.px x4).mut hls0 hlsp h4
    have w5 : Pw p (upd H2 tt (.tup [v1, v2])) (upd H4 ls (.lst (zs.take dg.toNat ++ [v1] ++ zs.drop dg.toNat))) := fun b o hb ho h => by
      rw [upd_ne (ne_of_none h hls)]
      exact ((Pw.of e3).trans x4.pw) b o hb ho h
    have o1' := (o1.up (x2.pw.trans (Pw.of (Ex.new htt)))).up w5
    have o2' := (o2.up (Pw.of (Ex.new htt))).up w5
    have hs5 : upd H4 ls (.lst (zs.take dg.toNat ++ [v1] ++ zs.drop dg.toNat)) ls = some (.lst (zs.take dg.toNat ++ v1 :: zs.drop dg.toNat)) := by
      rw [upd_same, List.append_assoc]
      rfl
    have hl5 := r5.get hlp hl
    have hAv : ∀ z ∈ zs.take dg.toNat, isValB z = true := fun z hz => (hzx z (List.mem_of_mem_take hz)).val
    have hBv : ∀ z ∈ zs.drop dg.toNat, InV z := fun z hz => hzx z (List.mem_of_mem_drop hz)
    have hAi : ∀ z ∈ zs.take dg.toNat, InV z := fun z hz => hzx z (List.mem_of_mem_take hz)
    have hyl : (zs.take dg.toNat ++ v1 :: zs.drop dg.toNat).length ≤ 3 := by
      rw [List.length_append, List.length_cons, List.length_take, List.length_drop]
      omega
    generalize upd H4 ls (.lst (zs.take dg.toNat ++ [v1] ++ zs.drop dg.toNat)) = H5 at r5 o1' o2' hs5 hl5
    generalize zs.take dg.toNat = As at hs5 hAv hAi hyl
    generalize zs.drop dg.toNat = Bs at hs5 hBv hyl
    clear h3 h4 hzx hzl w5 r3 hGl
    have kn : ∀ H6, Rw TT p H5 H6 → ∀ v ∈ As ++ v1 :: Bs, ∃ t, Kn H6 v t := fun H6 r6 v hv => by
      rcases List.mem_append.mp hv with h | h
      · exact (hAi v h).kn
      · rcases List.mem_cons.mp h with rfl | h
        · exact (o1'.2.2.2 H6 r6.w).1
        · exact (hBv v h).kn
    have r55 : Rw TT p H5 H5 := Rw.refl r5.po r5.tb
    have sm1 : Sm 3 7000 d1 := o1'.1.mono (by decide) (by decide)
    have sh1 : Shows (.list [.str "value", d1, .bool true]) := shows3 (.inl rfl) sm1
    have dq1 : ∀ H6, Rw TT p H5 H6 → Dq K H6 v1 d1 := fun H6 r => (o1'.2.2.2 H6 r.w).2
    have bad : isValB v1 = false := o1'.2.1
    -- _law_extreme(0, some + [more])
    refine w_if (T := TT) (p := p) (evw_is (evw_ne (evw_told (v := v1) r5.po r5.tb (.inl ⟨rfl, rfl⟩) sm1 dq1 fun E H7 r7 he Q' => ?_) (fun H7 r7 => evw_repr3 (v := v1) r7.po r7.tb rfl (fun H8 r8 => dq1 H8 (r7.trans r8)) sh1) rfl) (by rw [decide_eq_true rfl]; rfl)) fun H6 r6 => ?_
    · have h7 := r7.get hlsp hs5
      refine ⟨.ref ls, rfl, v2, rfl, (by decide : 1 ≤ sizeLine), fun z hz => ⟨ls, z, _, [v2], rfl, rfl, Ex.new hz ls _ h7, upd_same, sz_of (by simp only [List.length_cons, List.length_nil]; omega), fun z2 hz2 => ?_⟩⟩
      have r9 := (r7.ex (Ex.new hz (o := .lst [v2]))).ex (Ex.new hz2 (o := .lst ((As ++ v1 :: Bs) ++ [v2])))
      refine ⟨0, z2, (As ++ v1 :: Bs) ++ [v2], rfl, .inl rfl, sq_of upd_same, by rw [List.length_append]; simp only [List.length_cons, List.length_nil]; omega, fun v hv => ?_, fun all => ?_, fun i x hi hb hx => ?_⟩
      · rcases List.mem_append.mp hv with h | h
        · exact kn _ r9 v h
        · rw [List.mem_singleton.mp h]
          exact (o2'.2.2.2 _ r9.w).1
      · have z9 := all v1 (by simp)
        rw [bad] at z9
        cases z9
      · rw [List.append_assoc, List.cons_append] at hi hb
        rw [first_bad hAv bad hi hb hx]
        exact he _ r9
    -- _law_extreme(1, some), is_value(odd)
    have h6 := r6.get hlsp hs5
    refine w_if2 (T := TT) (p := p) (evw_is (evw_ne (evw_told (v := v1) r6.po r6.tb (.inl ⟨rfl, rfl⟩) sm1 (fun H8 r8 => dq1 H8 (r6.trans r8)) fun E H7 r7 he Q' => ?_) (fun H7 r7 => evw_repr3 (v := v1) r7.po r7.tb rfl (fun H8 r8 => dq1 H8 ((r6.trans r7).trans r8)) sh1) rfl) (by rw [decide_eq_true rfl]; rfl)) (fun H7 r7 => ?_) fun H7 r7 => ?_
    · refine ⟨.ref ls, rfl, 1, ls, As ++ v1 :: Bs, rfl, .inr rfl, sq_of (r7.get hlsp h6), by omega, kn H7 (r6.trans r7), fun all => ?_, fun i x hi hb hx => ?_⟩
      · have z9 := all v1 (by simp)
        rw [bad] at z9
        cases z9
      · rw [first_bad hAv bad hi hb hx]
        exact he _ r7
    · refine evw_of r7.po r7.tb (ev_is (ev_op (ev_repr (v := .bl false) (d := .bool false) (ev_fn (ea_cons (ev_var rfl) ea_nil) fun H8 e8 Q8 q8 E8 => ?_) (fun _ _ => .bl _) (shows_bool _)) ev_c (rv_ne rfl)) (by decide +kernel))
      obtain ⟨t, kt⟩ := (o1'.2.2.2 H8 ((r6.trans r7).ex e8).w).1
      refine ⟨v1, t, rfl, kt, ?_⟩
      rw [bad]
      exact q8 H8 (Ex.refl H8)
    -- told: three errors
    have r7' := r6.trans r7
    have odd : ∀ H8, Rw TT p H5 H8 → ∃ t, Kn H8 v1 t := fun H8 r8 => (o1'.2.2.2 H8 r8.w).1
    have mor : ∀ H8, Rw TT p H5 H8 → ∃ t, Kn H8 v2 t := fun H8 r8 => (o2'.2.2.2 H8 r8.w).1
    refine w_lst1 (T := TT) (p := p) (evw_told (v := v1) r7.po r7.tb (.inl ⟨rfl, rfl⟩) sm1 (fun H8 r8 => dq1 H8 (r7'.trans r8)) fun E H8 r8 he Q' => ?_) fun pt H8 r8 hpt => ?_
    · obtain ⟨t, kt⟩ := odd H8 (r7'.trans r8)
      obtain ⟨u, ku⟩ := mor H8 (r7'.trans r8)
      exact ⟨v1, rfl, v2, rfl, v1, v2, t, u, rfl, kt, ku, (fun h => by rw [bad] at h; cases h), (fun _ => he H8 r8), (fun h => by rw [bad] at h; cases h)⟩
    have hptp : pt ≠ p := r8.po.ne hpt
    have r8' := r7'.trans r8
    have r9 := r8'.ex (Ex.new hpt (o := .lst [.str (PyData.shown (.list [.str "value", d1, .bool true]))]))
    refine w_app (T := TT) (p := p) (pt := pt) (zs := [.str (PyData.shown (.list [.str "value", d1, .bool true]))]) rfl upd_same hptp (by show 1 < 1000; decide) (evw_told (v := v1) r9.po r9.tb (.inl ⟨rfl, rfl⟩) sm1 (fun H10 r10 => dq1 H10 (r9.trans r10)) fun E H10 r10 he Q' => ?_) fun H10 r10 h10 => ?_
    · obtain ⟨t, kt⟩ := odd H10 (r9.trans r10)
      exact ⟨v1, rfl, .int 3, v1, _, t, rfl, .int 3, kt, (fun _ h => by rw [bad] at h; cases h), (fun h => by cases h), (fun _ _ => he H10 r10)⟩
    have r10' : Rw TT p H5 (upd H10 pt (.lst ([.str (PyData.shown (.list [.str "value", d1, .bool true]))] ++ [.str (PyData.shown (.list [.str "value", d1, .bool true]))]))) := Rw.mut' r8' hpt (r9.trans r10) hptp h10
    refine w_app (T := TT) (p := p) (pt := pt) (zs := [.str (PyData.shown (.list [.str "value", d1, .bool true]))] ++ [.str (PyData.shown (.list [.str "value", d1, .bool true]))]) rfl upd_same hptp (by show 2 < 1000; decide) (evw_told (v := v1) r10'.po r10'.tb (.inl ⟨rfl, rfl⟩) sm1 (fun H11 r11 => dq1 H11 (r10'.trans r11)) fun E H11 r11 he Q' => ?_) fun H11 r11 h11 => ?_
    · obtain ⟨t, kt⟩ := odd H11 (r10'.trans r11)
      exact ⟨v1, rfl, v1, .str "top", t, _, rfl, kt, .str _, (fun h => by rw [bad] at h; cases h), (fun _ => he H11 r11), (fun h => by rw [bad] at h; cases h)⟩
    have r12 : Rw TT p H5 (upd H11 pt (.lst ([.str (PyData.shown (.list [.str "value", d1, .bool true]))] ++ [.str (PyData.shown (.list [.str "value", d1, .bool true]))] ++ [.str (PyData.shown (.list [.str "value", d1, .bool true]))]))) := Rw.mut' r8' hpt (r10'.trans r11) hptp h11
    have h12 : upd H11 pt (.lst ([.str (PyData.shown (.list [.str "value", d1, .bool true]))] ++ [.str (PyData.shown (.list [.str "value", d1, .bool true]))] ++ [.str (PyData.shown (.list [.str "value", d1, .bool true]))])) pt = some (.lst [.str (PyData.shown (.list [.str "value", d1, .bool true])), .str (PyData.shown (.list [.str "value", d1, .bool true])), .str (PyData.shown (.list [.str "value", d1, .bool true]))]) := upd_same
    generalize upd H11 pt (.lst ([.str (PyData.shown (.list [.str "value", d1, .bool true]))] ++ [.str (PyData.shown (.list [.str "value", d1, .bool true]))] ++ [.str (PyData.shown (.list [.str "value", d1, .bool true]))])) = H12 at r12 h12
    refine w_if (T := TT) (p := p) (evw_three (K := K) (i := 3) (pt := pt) rfl h12 hptp o1'.2.2.1 (evw_repr3 (v := v1) r12.po r12.tb rfl (fun H13 r13 => dq1 H13 (r12.trans r13)) sh1)) fun H13 r13 => ?_
    have r13' := r12.trans r13
    -- rank
    refine ⟨.ref p, rfl, (by decide : 1 ≤ sizeLine), fun l1 hl1 m1 => ⟨(by decide : 1 ≤ sizeLine), fun l2 hl2 l3 hl3 => ⟨(by decide : 9 ≤ sizeLine), fun l4 hl4 => ?_⟩⟩⟩
    have q1 := Ex.new hl4 (o := .lst [.str "top", .str "bottom", .bl true, .bl false, .non, .str "1", .ref l1, .ref l2, .ref l3]) l1 _ (Ex.new hl3 (o := .dK []) l1 _ (Ex.new hl2 (o := .tup [.int 0]) l1 _ (upd_same (H := H13) (a := l1) (o := .lst [.int 1]))))
    have q2 := Ex.new hl4 (o := .lst [.str "top", .str "bottom", .bl true, .bl false, .non, .str "1", .ref l1, .ref l2, .ref l3]) l2 _ (Ex.new hl3 (o := .dK []) l2 _ (upd_same (H := upd H13 l1 (.lst [.int 1])) (a := l2) (o := .tup [.int 0])))
    have q3 := Ex.new hl4 (o := .lst [.str "top", .str "bottom", .bl true, .bl false, .non, .str "1", .ref l1, .ref l2, .ref l3]) l3 _ (upd_same (H := upd (upd H13 l1 (.lst [.int 1])) l2 (.tup [.int 0])) (a := l3) (o := .dK []))
    have e14 := (((Ex.new hl1 (o := .lst [.int 1])).trans (Ex.new hl2 (o := .tup [.int 0]))).trans (Ex.new hl3 (o := .dK []))).trans (Ex.new hl4 (o := .lst [.str "top", .str "bottom", .bl true, .bl false, .non, .str "1", .ref l1, .ref l2, .ref l3]))
    have p13 : Po p H13 := r13.po
    have n1 := p13.ne hl1
    have n2 := (p13.up (Ex.new hl1)).ne hl2
    have n3 := (p13.up ((Ex.new hl1).trans (Ex.new hl2))).ne hl3
    have n4 := (p13.up (((Ex.new hl1).trans (Ex.new hl2)).trans (Ex.new hl3))).ne hl4
    have r14 := r13'.ex e14
    have q4 : (upd (upd (upd (upd H13 l1 (.lst [.int 1])) l2 (.tup [.int 0])) l3 (.dK [])) l4 (.lst [.str "top", .str "bottom", .bl true, .bl false, .non, .str "1", .ref l1, .ref l2, .ref l3])) l4 = some (.lst [.str "top", .str "bottom", .bl true, .bl false, .non, .str "1", .ref l1, .ref l2, .ref l3]) := upd_same
    generalize upd (upd (upd (upd H13 l1 (.lst [.int 1])) l2 (.tup [.int 0])) l3 (.dK [])) l4 (.lst [.str "top", .str "bottom", .bl true, .bl false, .non, .str "1", .ref l1, .ref l2, .ref l3]) = H14 at q1 q2 q3 q4 e14 r14
    refine ⟨p, l4, _, rfl, r14.po, q4, n4, (by show 0 < 9; decide), (by show 9 ≤ 1000; decide), fun rk hrk H15 x15 => ?_⟩
    have ok : ∃ dr, Rk K p H14 rk dr := by
      simp only [List.mem_cons, List.not_mem_nil, or_false] at hrk
      rcases hrk with rfl | rfl | rfl | rfl | rfl | rfl | rfl | rfl | rfl
      · exact ⟨_, rk_flat rfl (sm_str (by decide +kernel) (by decide +kernel)) rfl⟩
      · exact ⟨_, rk_flat rfl (sm_str (by decide +kernel) (by decide +kernel)) rfl⟩
      · exact ⟨_, rk_flat rfl sm_bool rfl⟩
      · exact ⟨_, rk_flat rfl sm_bool rfl⟩
      · exact ⟨_, rk_flat rfl sm_none rfl⟩
      · exact ⟨_, rk_flat rfl (sm_str (by decide +kernel) (by decide +kernel)) rfl⟩
      · exact ⟨_, (od_lst1 q1 n1 m1 rfl (sm_int (by decide)) (by decide +kernel)).rk rfl⟩
      · exact ⟨_, (od_tup1 q2 n2 rfl (sm_int (by decide)) (by decide +kernel)).rk rfl⟩
      · exact ⟨_, (od_dic0 q3 n3).rk rfl⟩
    obtain ⟨dr, hk⟩ := ok
    have r15 : Rw TT p H5 H15 := r14.px x15
    have k15 := hk.up x15.pw
    refine w_if (T := TT) (p := p) (evw_is (evw_ne (evw_told (v := rk) r15.po r15.tb (.inr (.inr ⟨rfl, rfl⟩)) hk.1 (fun H16 r16 => (k15.2.2 H16 r16.w).2) fun E H16 r16 he Q' => ?_) (fun H16 r16 => evw_repr3 (v := rk) r16.po r16.tb rfl (fun H17 r17 => (k15.2.2 H17 (r16.trans r17).w).2) (shows3 (.inr (.inr rfl)) hk.1)) rfl) (by rw [decide_eq_true rfl]; rfl)) fun H16 r16 => ?_
    · refine ⟨.ref p, rfl, 10, 40, rfl, rfl, ⟨by decide, by decide, by decide⟩, _, rfl, (by decide : 3 ≤ sizeLine), fun z hz => ⟨p, z, _, rfl, r16.po.up (Ex.new hz), upd_same, r16.po.ne hz, (by show 0 < 3; decide), (by show 3 ≤ 1000; decide), fun x hx H17 x17 => ?_⟩⟩
      have r17 := (r16.ex (Ex.new hz)).px x17
      obtain ⟨u, ku⟩ := (k15.2.2 H17 r17.w).1
      have vx : isValB x = true := by
        simp only [List.mem_cons, List.not_mem_nil, or_false] at hx
        rcases hx with rfl | rfl | rfl <;> rfl
      obtain ⟨t, kt⟩ := kn_val (H := H17) vx
      exact ⟨rk, rfl, x, rk, t, u, rfl, kt, ku, (fun _ h => by rw [hk.2.1] at h; cases h), (fun h => by rw [vx] at h; cases h), (fun _ _ => he H17 r17)⟩
    -- wrong
    have r16' := r15.trans r16
    have hl16 := r16'.get hlp hl5
    refine ⟨.ref p, rfl, fun l1 g1 l2 g2 => ⟨upd_same, [(.inl 1, .int 2)], rfl, by decide, ?_⟩⟩
    have p16 : Po p H16 := r16.po
    have n1' := p16.ne g1
    have n2' := (p16.up (Ex.new g1)).ne g2
    have eA : Ex H16 (upd (upd (upd H16 l1 (.dK [])) l2 (.dK [])) l2 (.dK (mergeK [] [(.inl 1, .int 2)]))) := ((Ex.new g1).trans (Ex.new g2)).mut (fresh_back (Ex.new g1) g2)
    have qa1 : (upd (upd (upd H16 l1 (.dK [])) l2 (.dK [])) l2 (.dK (mergeK [] [(.inl 1, .int 2)]))) l1 = some (.dK []) := by
      have n12 : l1 ≠ l2 := fun z => by
        rw [← z, upd_same] at g2
        cases g2
      rw [upd_ne n12, upd_ne n12, upd_same]
    have qa2 : (upd (upd (upd H16 l1 (.dK [])) l2 (.dK [])) l2 (.dK (mergeK [] [(.inl 1, .int 2)]))) l2 = some (.dK [(.inl 1, .int 2)]) := upd_same.trans (by rfl)
    generalize (upd (upd (upd H16 l1 (.dK [])) l2 (.dK [])) l2 (.dK (mergeK [] [(.inl 1, .int 2)]))) = A2 at eA qa1 qa2
    have hlA2 := eA l _ hl16
    have pA2 := p16.up eA
    refine ⟨.ref l, rfl, v1, rfl, (by decide : 1 ≤ sizeLine), fun l3 g3 => ⟨l, l3, xs, [v1], rfl, rfl, Ex.new g3 l _ hlA2, upd_same, sz_of (by simp only [List.length_cons, List.length_nil]; omega), fun l4 g4 m4' => ?_⟩⟩
    have eB : Ex A2 (upd (upd A2 l3 (.lst [v1])) l4 (.lst (xs ++ [v1]))) := (Ex.new g3).trans (Ex.new g4)
    have n4' := (pA2.up (Ex.new g3)).ne g4
    have qb4 : (upd (upd A2 l3 (.lst [v1])) l4 (.lst (xs ++ [v1]))) l4 = some (.lst (xs ++ [v1])) := upd_same
    generalize (upd (upd A2 l3 (.lst [v1])) l4 (.lst (xs ++ [v1]))) = A4 at eB qb4
    have hlA4 := eB l _ hlA2
    have pA4 := pA2.up eB
    refine ⟨v1, rfl, (by decide : 1 ≤ sizeLine), fun l5 g5 => ⟨.ref l, rfl, l5, l, [v1], xs, rfl, rfl, upd_same, Ex.new g5 l _ hlA4, sz_of (by simp only [List.length_cons, List.length_nil]; omega), fun l6 g6 => ⟨l6, [v1] ++ xs, rfl, .inl ⟨sq_of upd_same, fun l7 g7 => ?_⟩⟩⟩⟩
    have eC : Ex A4 (upd (upd (upd A4 l5 (.lst [v1])) l6 (.lst ([v1] ++ xs))) l7 (.tup ([v1] ++ xs))) := ((Ex.new g5).trans (Ex.new g6)).trans (Ex.new g7)
    have n7' := (pA4.up ((Ex.new g5).trans (Ex.new g6))).ne g7
    have qc7 : (upd (upd (upd A4 l5 (.lst [v1])) l6 (.lst ([v1] ++ xs))) l7 (.tup ([v1] ++ xs))) l7 = some (.tup ([v1] ++ xs)) := upd_same
    generalize (upd (upd (upd A4 l5 (.lst [v1])) l6 (.lst ([v1] ++ xs))) l7 (.tup ([v1] ++ xs))) = A7 at eC qc7
    have pA7 := pA4.up eC
    refine ⟨v1, rfl, v2, rfl, (by decide : 2 ≤ sizeLine), fun l8 g8 m8' => ⟨(by decide : 9 ≤ sizeLine), fun l9 g9 => ?_⟩⟩
    have n8' := pA7.ne g8
    have n9' := (pA7.up (Ex.new g8)).ne g9
    have eD := (Ex.new g8).trans (Ex.new g9 (o := .lst [.non, .int 5, .str "ab", .ref l1, .ref l2, .bl true, .ref l4, .ref l7, .ref l8]))
    have qd8 : upd (upd A7 l8 (.lst [v1, v2])) l9 (.lst [.non, .int 5, .str "ab", .ref l1, .ref l2, .bl true, .ref l4, .ref l7, .ref l8]) l8 = some (.lst [v1, v2]) := Ex.new g9 l8 _ upd_same
    have qd9 : upd (upd A7 l8 (.lst [v1, v2])) l9 (.lst [.non, .int 5, .str "ab", .ref l1, .ref l2, .bl true, .ref l4, .ref l7, .ref l8]) l9 = some (.lst [.non, .int 5, .str "ab", .ref l1, .ref l2, .bl true, .ref l4, .ref l7, .ref l8]) := upd_same
    generalize upd (upd A7 l8 (.lst [v1, v2])) l9 (.lst [.non, .int 5, .str "ab", .ref l1, .ref l2, .bl true, .ref l4, .ref l7, .ref l8]) = A9 at eD qd8 qd9
    have rA := r16'.ex (((eA.trans eB).trans eC).trans eD)
    have qz1 := eD _ _ (eC _ _ (eB _ _ qa1))
    have qz2 := eD _ _ (eC _ _ (eB _ _ qa2))
    have qz4 := eD _ _ (eC _ _ qb4)
    have qz7 := eD _ _ qc7
    refine ⟨p, l9, _, rfl, rA.po, qd9, n9', (by show 0 < 9; decide), (by show 9 ≤ 1000; decide), fun wv hw H17 x17 => ?_⟩
    have sx : ∀ d ∈ xs.map dV, Sm 2 600 d := fun d hd => by
      obtain ⟨x, hxm, rfl⟩ := List.mem_map.mp hd
      exact (hx x hxm).sm.mono (by decide) (by decide)
    have dqx : ∀ H', DqAll K H' xs (xs.map dV) := fun H' => dqAll_flat fun x h => (hx x h).flat
    have knx : ∀ (H' : Hp), ∀ v ∈ xs, ∃ t, Kn H' v t := fun H' v hv => (hx v hv).kn
    have ok : ∃ dw, Wr K a p A9 wv dw := by
      simp only [List.mem_cons, List.not_mem_nil, or_false] at hw
      rcases hw with rfl | rfl | rfl | rfl | rfl | rfl | rfl | rfl | rfl
      · exact ⟨_, wr_flat rfl sm_none⟩
      · exact ⟨_, wr_flat rfl (sm_int (by decide))⟩
      · exact ⟨_, wr_flat rfl (sm_str (by decide +kernel) (by decide +kernel))⟩
      · exact ⟨_, wr_dic (ds := []) qz1 n1' (sm_dict0.mono (by decide) (by decide)) fun _ => .nil⟩
      · exact ⟨_, wr_dic (ds := [(.int 1, .int 2)]) qz2 n2' ⟨by decide +kernel, by decide +kernel, by decide +kernel, by decide +kernel⟩ fun _ => .cons (.int 1) rfl (.int 2) rfl .nil⟩
      · exact ⟨_, wr_flat rfl sm_bool⟩
      · refine ⟨.list (xs.map dV ++ [d1]), wr_lst qz4 n4' m4' ((sm_list (k := 2) (n := 600) (m := 9) (fun d hd => ?_) (by rw [List.length_append, List.length_map]; simp only [List.length_cons, List.length_nil]; omega)).mono (by decide) (by decide)) (fun H' e => ⟨dqAll_app (dqx H') (.cons (o1'.2.2.2 H' (rA.w.trans e)).2 .nil), fun v hv => ?_⟩) (by rw [List.length_append]; simp only [List.length_cons, List.length_nil]; omega) ⟨v1, by simp, bad⟩⟩
        · rcases List.mem_append.mp hd with h | h
          · exact sx d h
          · rw [List.mem_singleton.mp h]
            exact o1'.1
        · rcases List.mem_append.mp hv with h | h
          · exact knx H' v h
          · rw [List.mem_singleton.mp h]
            exact (o1'.2.2.2 H' (rA.w.trans e)).1
      · refine ⟨.tuple ([d1] ++ xs.map dV), wr_tup qz7 n7' ((sm_tuple (k := 2) (n := 600) (m := 9) (fun d hd => ?_) (by rw [List.length_append, List.length_map]; simp only [List.length_cons, List.length_nil]; omega)).mono (by decide) (by decide)) (fun H' e => ⟨dqAll_app (.cons (o1'.2.2.2 H' (rA.w.trans e)).2 .nil) (dqx H'), fun v hv => ?_⟩) (by rw [List.length_append]; simp only [List.length_cons, List.length_nil]; omega) ⟨v1, by simp, bad⟩⟩
        · rcases List.mem_append.mp hd with h | h
          · rw [List.mem_singleton.mp h]
            exact o1'.1
          · exact sx d h
        · rcases List.mem_append.mp hv with h | h
          · rw [List.mem_singleton.mp h]
            exact (o1'.2.2.2 H' (rA.w.trans e)).1
          · exact knx H' v h
      · refine ⟨.list [d1, d2], wr_lst qd8 n8' m8' ((sm_list (ds := [d1, d2]) (k := 2) (n := 600) (m := 9) (fun d hd => ?_) (by show 2 ≤ 9; decide)).mono (by decide) (by decide)) (fun H' e => ⟨.cons (o1'.2.2.2 H' (rA.w.trans e)).2 (.cons (o2'.2.2.2 H' (rA.w.trans e)).2 .nil), fun v hv => ?_⟩) (by show 2 ≤ 40; decide) ⟨v1, by simp, bad⟩⟩
        · simp only [List.mem_cons, List.not_mem_nil, or_false] at hd
          rcases hd with rfl | rfl
          · exact o1'.1
          · exact o2'.1
        · simp only [List.mem_cons, List.not_mem_nil, or_false] at hv
          rcases hv with rfl | rfl
          · exact (o1'.2.2.2 H' (rA.w.trans e)).1
          · exact (o2'.2.2.2 H' (rA.w.trans e)).1
    obtain ⟨dw, hw2⟩ := ok
    have r17 : Rw TT p H5 H17 := rA.px x17
    have w17 := hw2.up x17.pw
    refine w_ret (T := TT) (p := p) (v := .bl true) (evw_is (evw_eq (evw_told (v := wv) r17.po r17.tb (.inr (.inl ⟨rfl, rfl⟩)) w17.1 (fun H18 r18 => (w17.2 H18 r18.w).1) fun E H18 r18 he Q' => ⟨wv, rfl, (w17.2 H18 r18.w).2 Q' E (he H18 r18)⟩) (fun H18 r18 => evw_repr3 (v := wv) r18.po r18.tb rfl (fun H19 r19 => (w17.2 H19 (r18.trans r19).w).1) (shows3 (.inr (.inl rfl)) w17.1)) rfl) (by rw [decide_eq_true rfl])) fun H18 r18 => q H18 ((r5.trans r17).trans r18)
end
end K11
namespace K11
open PySem PySem.Spec PyProof.Rows L2 LG Evl LamX
section
variable {K : PySem.W.Frag} {σ : L2.St} {H : Hp} {te ta : TE}
/-- all([e for j in range(n)]), each e True -/
theorem all_R1 {ta : TA} {j : Nat} {n : Int} (h : EvA ta σ H [.int n]) (hn : 0 ≤ n ∧ n ≤ 1000) (hw : ∀ x, wipe ((wipe σ [j]).set j (some x)) [j] = wipe σ [j]) (W : Addr → Hp → Prop) (h0 : ∀ H1 Dl, Ex H H1 → H1 Dl = none → W Dl (upd H1 Dl (.lst [])))
    (hs : ∀ (i : Nat) (Dl : Addr) (H' : Hp) (zs : List V), (i : Int) < n → W Dl H' → H' Dl = some (.lst zs) → ∀ Q' : VK, (∀ H2, H2 Dl = some (.lst zs) → W Dl (upd H2 Dl (.lst (zs ++ [.bl true]))) → Q' (.bl true) H2) → te ((wipe σ [j]).set j (some (.int (i : Int)))) H' Q')
    {D : Ends} (q : ∀ H', D.rt (.bl true) H') : tRet (tCB (rAll K) (tCons (tLc (iRng1 ta) (gName j) tYes te [j]) tNil)) D σ H := h H (Ex.refl H) _ fun H1 e1 => ⟨n, rfl, by omega, by omega, fun Dl hD =>
  lc_range (lo := 0) (n := n.toNat) (fun i H' => H' Dl = some (.lst (List.replicate i (.bl true))) ∧ W Dl H') ⟨upd_same, h0 H1 Dl e1 hD⟩ (fun i H' hi p => by
    have e0 : (0 : Int) + (i : Int) = (i : Int) := Int.zero_add _
    show wipe ((wipe σ [j]).set j (some (.int ((0 : Int) + (i : Int))))) [j] = wipe σ [j] ∧ te ((wipe σ [j]).set j (some (.int ((0 : Int) + (i : Int))))) H' fun y H4 => ∃ acc, H4 Dl = some (.lst acc) ∧ acc.length < sizeLine ∧ (upd H4 Dl (.lst (acc ++ [y]))) Dl = some (.lst (List.replicate (i + 1) (.bl true))) ∧ W Dl (upd H4 Dl (.lst (acc ++ [y])))
    rw [e0]
    refine ⟨hw _, hs i Dl H' _ (by omega) p.2 p.1 _ fun H2 h2 w2 => ⟨_, h2, sz_lt (by rw [List.length_replicate]; omega), ?_, w2⟩⟩
    rw [upd_same, List.replicate_succ'])
    (fun H' p => ⟨Dl, List.replicate n.toNat true, rfl, sq_of (by rw [p.1, List.map_replicate]), by
      have e : (List.replicate n.toNat true).all id = true := by
        rw [List.all_eq_true]
        intro b hb
        exact (List.mem_replicate.mp hb).2
      rw [e]
      exact q H'⟩)⟩
end
section
variable {P : Program} {w : World} {K : PySem.W.Frag} {mg : Str → Option Value} {base : Heap} {a : At}
def sp__law_right (Pt : Addr) : Sp := fun vs H Q _ => ∃ (p : Addr), vs = [.ref p] ∧ Po p H ∧ Tabs (lamT Pt) H ∧ ∀ H', Rw (lamT Pt) p H H' → Q (.bl true) H'
theorem ok__law_right (T : Txt K mg a) {c Pt : Addr} (hC : codeAt K a._law_refused_right = some (.ref c)) (TB : TabB base mg c Pt) : Fn P w K mg base 9 a._law_right (sp__law_right Pt) := by
  have G__law_draw : Fn P w K mg base 1 a._law_draw sp__law_draw := ok__law_draw T
  have G__law_things : Fn P w K mg base 4 a._law_things sp__law_things := ok__law_things T
  have G_is_value : Fn P w K mg base 2 a.is_value sp_is_value := ok_is_value T
  have G__law_pairs_right : Fn P w K mg base 5 a._law_pairs_right (sp__law_pairs_right K) := ok__law_pairs_right T
  have G__law_levels_right : Fn P w K mg base 5 a._law_levels_right (sp__law_levels_right K) := ok__law_levels_right T
  have G__law_extremes_right : Fn P w K mg base 6 a._law_extremes_right (sp__law_extremes_right K) := ok__law_extremes_right T
  have G__law_eight_right : Fn P w K mg base 5 a._law_eight_right sp__law_eight_right := ok__law_eight_right T
  have G__law_refused_right : Fn P w K mg base 8 a._law_refused_right (sp__law_refused_right Pt) := ok__law_refused_right T hC TB
  refine T.d__law_right.fn sc__law_right (fun _ _ _ _ _ _ us hl => match us, hl with | [_], _ => rfl) (fun vs H Q E h => ?_) (fun cdv A outer s H vs Q E hg hr h => ?_)
  · obtain ⟨_, rfl, _⟩ := h
    rfl
  · obtain ⟨p, rfl, hp, ht, q⟩ := h
    have nd := sc__law_right.nd
    refine ⟨_, (pss_cons (ps_set (i := 1) nd rfl (.inl rfl) (pe_fn G__law_things hg (hr.mono (by decide)) T.d__law_things.kp T.d__law_things.m (by rfl) passL (pa_cons (pv 0) (pa_cons (pe_fn G__law_draw hg (hr.mono (by decide)) T.d__law_draw.kp T.d__law_draw.m (by rfl) passL (pa_cons (pv 0) (pa_cons pe_int pa_nil))) pa_nil))))
    (pss_cons (ps_if (PW.pt (pw_or (pt_not (pt_val (pe_callB (cr_all rfl) (by rfl) T.z_all (by decide +kernel) (pa_cons (pe_lc rfl (own := [("one", 2)]) (g := gName 2) (by exact nd) (pi_list (pv 1)) (blkOk_by (own := [("one", 2)]) (N := ["pot", "things", "one"]) (sc := defScope s__law_right) (by decide +kernel)) (fun _ _ _ _ _ => (pg_name (i := 2) nd rfl (.inl rfl))) (fun _ _ _ _ _ => pts_nil) (fun _ _ _ _ _ => (pe_cmpR (op_is_bl) (pe_fn G_is_value hg (hr.mono (by decide)) T.d_is_value.kp T.d_is_value.m (by rfl) passL (pa_cons (pv 2) pa_nil)) pe_bl (nomark _)))) pa_nil)))) (pw_or1 (pt_not (pt_val (pe_fn G__law_pairs_right hg (hr.mono (by decide)) T.d__law_pairs_right.kp T.d__law_pairs_right.m (by rfl) passL (pa_cons (pv 1) pa_nil))))))) (pss_one (ps_ret pe_bl)) pss_nil)
    (pss_cons (ps_if (PW.pt (pw_or (pt_not (pt_val (pe_fn G__law_levels_right hg (hr.mono (by decide)) T.d__law_levels_right.kp T.d__law_levels_right.m (by rfl) passL (pa_cons (pv 0) (pa_cons (pv 1) pa_nil))))) (pw_or1 (pt_not (pt_val (pe_fn G__law_extremes_right hg (hr.mono (by decide)) T.d__law_extremes_right.kp T.d__law_extremes_right.m (by rfl) passL (pa_cons (pe_slice sl_list (pv 1) po_none (po_some (pe_fn G__law_draw hg (hr.mono (by decide)) T.d__law_draw.kp T.d__law_draw.m (by rfl) passL (pa_cons (pv 0) (pa_cons pe_int pa_nil))))) pa_nil))))))) (pss_one (ps_ret pe_bl)) pss_nil)
    (pss_one (ps_ret (pe_and (pe_fn G__law_eight_right hg (hr.mono (by decide)) T.d__law_eight_right.kp T.d__law_eight_right.m (by rfl) passL (pa_cons (pv 0) pa_nil)) (pe_one (pe_fn G__law_refused_right hg (hr.mono (by decide)) T.d__law_refused_right.kp T.d__law_refused_right.m (by rfl) passL (pa_cons (pv 0) (pa_cons (pv 1) pa_nil)))))))))), ?_⟩
    have r0 : Rw (lamT Pt) p H H := Rw.refl hp ht
    refine ⟨.ref p, rfl, .ref p, rfl, p, 9, rfl, hp, by decide, by decide, fun d H1 d0 d1 x1 => ?_⟩
    obtain ⟨m, rfl⟩ := Int.eq_ofNat_of_zero_le d0
    refine ⟨p, m, rfl, x1.2, by omega, fun l xs H2 hl0 hlm hlen hx x2 hl => ?_⟩
    have hlp : l ≠ p := x1.ne hl0
    have r2 := (r0.px x1).px x2
    have al : (xs.map fun _ => true).all id = true := by
      rw [List.all_map]
      exact List.all_eq_true.mpr fun _ _ => rfl
    have em : (xs.map fun _ => V.bl true) = (xs.map fun _ => true).map V.bl := by
      rw [List.map_map]
      rfl
    have L := el_map (K := K) (σ := [some (.ref p), some (.ref l), none]) (H := H2) (tl := tVar 1) (j := 2) (te := tOp (fun x y H Q => ∃ a b, x = V.bl a ∧ y = V.bl b ∧ Q (.bl (decide (a = b))) H) (tFn sp_is_value E0 (tCons (tVar 2) tNil)) (tC (.bl true))) (fun _ => V.bl true) (ev_var rfl) (sq_of hl) (by omega) (fun _ => rfl) (fun v hv H3 e3 => by
      refine ev_op (x := .bl true) (y := .bl true) (ev_fn (ea_cons (ev_var rfl) ea_nil) fun H4 e4 Q4 q4 E4 => ?_) ev_c fun H4 e4 Q4 q4 => ⟨true, true, rfl, rfl, q4 H4 (Ex.refl H4)⟩
      obtain ⟨t, kt⟩ := (hx v hv).kn (H := H4)
      refine ⟨v, t, rfl, kt, ?_⟩
      rw [(hx v hv).val]
      exact q4 H4 (Ex.refl H4))
    rw [em] at L
    have t1 := et_not (et_B (ev_all (K := K) L))
    rw [al] at t1
    have t2 : EvT (tNot (tB (tFn (sp__law_pairs_right K) E0 (tCons (tVar 1) tNil)))) [some (.ref p), some (.ref l), none] H2 (!true) := et_not (et_B (ev_fn (vs := [.ref l]) (ea_cons (ev_var rfl) ea_nil) fun H3 e3 Q3 q3 E3 => ⟨l, xs, rfl, e3 l _ hl, hx, by omega, q3⟩))
    refine q_when (b := false) (et_or (a := false) (b := false) t1 fun _ => t2) (fun z => nomatch z) fun _ H3 e3 => ?_
    have r3 := r2.ex e3
    have h3 := e3 l _ hl
    refine ⟨.ref p, rfl, .ref l, rfl, p, l, xs, rfl, r3.po, h3, hlp, hx, by omega, fun H4 x4 => ⟨true, rfl, ?_⟩⟩
    have r4 := r3.px x4
    have h4 := x4.1 l _ hlp h3
    refine ⟨.ref l, rfl, .ref p, rfl, p, 5, rfl, r4.po, by decide, by decide, fun d5 H5 d50 d51 x5 => ⟨d5, rfl, l, xs, rfl, sq_of (x5.1 l _ hlp h4), fun z hz => ?_⟩⟩
    obtain ⟨k5, rfl⟩ := Int.eq_ofNat_of_zero_le d50
    have r6 := (r4.px x5).ex (Ex.new hz (o := .lst (cutV xs none (some (k5 : Int)))))
    have h6 := Ex.new hz (o := .lst (cutV xs none (some (k5 : Int)))) l _ (x5.1 l _ hlp h4)
    refine ⟨z, cutV xs none (some (k5 : Int)), rfl, upd_same, fun x hxm => hx x (List.mem_of_mem_drop (List.mem_of_mem_take hxm)), ?_, fun H7 e7 => ⟨true, rfl, ?_⟩⟩
    · unfold cutV
      rw [List.length_take, HT.sIx_nat]
      omega
    · have r7 := r6.ex e7
      have h7 := e7 l _ h6
      refine ⟨.ref p, rfl, p, rfl, r7.po, fun H8 x8 => ⟨true, rfl, ?_⟩⟩
      have r8 := r7.px x8
      exact ⟨.ref p, rfl, .ref l, rfl, p, l, xs, rfl, r8.po, r8.tb, x8.1 l _ hlp h7, hlp, hx, by omega, fun H9 r9 => q H9 (r8.trans r9)⟩
def sp_law (K : PySem.W.Frag) (Pt : Addr) : Sp := fun vs H Q _ => ∃ (l : Addr) (ns : List Int), vs = [.ref l] ∧ SqL K H l (ns.map V.int) ∧ ns.length ≤ 63 ∧ Tabs (lamT Pt) H ∧ ∀ H', Q (.bl true) H'
theorem ok_law (T : Txt K mg a) {c Pt : Addr} (hC : codeAt K a._law_refused_right = some (.ref c)) (TB : TabB base mg c Pt) : Fn P w K mg base 10 a.law (sp_law K Pt) := by
  have G__law_pot : Fn P w K mg base 1 a._law_pot (sp__law_pot K) := ok__law_pot T
  have G__law_right : Fn P w K mg base 9 a._law_right (sp__law_right Pt) := ok__law_right T hC TB
  refine T.d_law.fn sc_law (fun _ _ _ _ _ _ us hl => match us, hl with | [_], _ => rfl) (fun vs H Q E h => ?_) (fun cdv A outer s H vs Q E hg hr h => ?_)
  · obtain ⟨_, _, rfl, _⟩ := h
    rfl
  · obtain ⟨l, ns, rfl, hs, hlen, ht, q⟩ := h
    have nd := sc_law.nd
    have hu : (A.deeper _).units + 64 < cLine := hr.units
    refine ⟨_, (pss_cons (ps_if (pt_cmpR (op_neD hu) (pe_lst (pa_cons (pe_glob (v := .str "bottom") rfl T.v_BOTTOM ⟨_, rfl⟩) (pa_cons (pe_glob (v := .str "top") rfl T.v_TOP ⟨_, rfl⟩) (pa_cons (pe_glob (v := .str "no bound") rfl T.v_NO_BOUND ⟨_, rfl⟩) pa_nil)))) (pe_lst (pa_cons pe_str (pa_cons pe_str (pa_cons pe_str pa_nil)))) (nomark _)) (pss_one (ps_ret pe_bl)) pss_nil)
    (pss_one (ps_ret (pe_callB (cr_all rfl) (by rfl) T.z_all (by decide +kernel) (pa_cons (pe_lc rfl (own := [("k", 1)]) (g := gName 1) (by exact nd) (pi_range1 (by rfl) T.z_range (pa_cons (pe_callB (call_max2 rfl) (by rfl) T.z_max (by decide +kernel) (pa_cons pe_int (pa_cons (pe_callB (call_min2 rfl) (by rfl) T.z_min (by decide +kernel) (pa_cons (pe_callB call_len_seq (by rfl) T.z_len (by decide +kernel) (pa_cons (pv 0) pa_nil)) (pa_cons pe_int pa_nil))) pa_nil))) pa_nil)) (blkOk_by (own := [("k", 1)]) (N := ["script", "k"]) (sc := defScope s_law) (by decide +kernel)) (fun _ _ _ _ _ => (pg_name (i := 1) nd rfl (.inl rfl))) (fun _ _ _ _ _ => pts_nil) (fun _ _ _ _ _ => (pe_fn G__law_right hg (hr.mono (by decide)) T.d__law_right.kp T.d__law_right.m (by rfl) passL (pa_cons (pe_fn G__law_pot hg (hr.mono (by decide)) T.d__law_pot.kp T.d__law_pot.m (by rfl) passL (pa_cons (pv 0) (pa_cons (pv 1) pa_nil))) pa_nil)))) pa_nil))))), ?_⟩
    refine q_when (b := false) (et_is (b := false) (et_test (b := !PyData.eqv (.list [.str "bottom", .str "top", .str "no bound"]) (.list [.str "bottom", .str "top", .str "no bound"])) (ev_opLL (el_lst (ea_cons ev_c (ea_cons ev_c (ea_cons ev_c ea_nil))) (by decide)) (el_lst (ea_cons ev_c (ea_cons ev_c (ea_cons ev_c ea_nil))) (by decide)) fun p q2 H1 hp hq e1 => rv_val fun H2 e2 Q2 k2 =>
      ⟨.list [.str "bottom", .str "top", .str "no bound"], .list [.str "bottom", .str "top", .str "no bound"], .lst (sq_of (e2 _ _ hp)) (.cons (.str _) (.cons (.str _) (.cons (.str _) .nil))), .lst (sq_of (e2 _ _ hq)) (.cons (.str _) (.cons (.str _) (.cons (.str _) .nil))), by decide +kernel, by decide +kernel, k2⟩)) (by decide +kernel)) (fun z => nomatch z) fun _ G e2 => ?_
    have hsG := ex_l e2 hs
    have htG : Tabs (lamT Pt) G := ht.ext e2
    have nT : ∀ o, G l = some o → SqL K G l (ns.map V.int) → (∀ ps, o ≠ .tbl ps) ∨ (∀ H', SqL K H' l (ns.map V.int)) := fun o ho h => by
      rcases h with (h | ⟨ob, h⟩) | h
      · rw [ho] at h
        cases h
        exact .inl fun ps z => by cases z
      · rw [ho] at h
        cases h
        exact .inl fun ps z => by cases z
      · exact .inr fun H' => .inr h
    have stays : ∀ H', (∀ o, G l = some o → (∀ ps, o ≠ .tbl ps) → H' l = some o) → SqL K H' l (ns.map V.int) := fun H' h => by
      rcases hsG with (h1 | ⟨ob, h1⟩) | h1
      · exact .inl (.inl (h _ h1 fun ps z => by cases z))
      · exact .inl (.inr ⟨ob, h _ h1 fun ps z => by cases z⟩)
      · exact .inr h1
    refine all_R1 (K := K) (σ := [some (.ref l), none]) (j := 1) (D := { nx := fun _ H' => Q .non H', rt := Q }) (n := if (if (5 : Int) < (ns.map V.int).length then 5 else ((ns.map V.int).length : Int)) > 1 then (if (5 : Int) < (ns.map V.int).length then 5 else ((ns.map V.int).length : Int)) else 1) ?_ ?_ (fun _ => rfl) (fun Dl H' => Tabs (lamT Pt) H' ∧ ∀ o, G l = some o → (∀ ps, o ≠ .tbl ps) → H' l = some o ∧ l ≠ Dl) (fun H1 Dl e1 hD => ⟨(htG.ext e1).ext (Ex.new hD), fun o ho _ => ⟨Ex.new hD l _ (e1 l _ ho), ne_of_none (e1 l _ ho) hD⟩⟩) (fun i Dl H' zs hi ⟨tb, st⟩ hD Q' q' => ?_) q
    · exact fun H1 e1 Q1 q1 => ⟨.ref l, rfl, l, _, rfl, .inl (ex_l e1 hsG), _, 5, rfl, 1, _, rfl, q1 H1 (Ex.refl H1)⟩
    · rw [List.length_map]
      split <;> split <;> omega
    · refine ⟨.ref l, rfl, .int i, rfl, l, ns, i, rfl, stays H' (fun o ho hn => (st o ho hn).1), hlen, ?_, fun p H1 hp e1 po1 => ⟨p, rfl, po1, tb.ext e1, fun H2 r2 => q' H2 (r2.get (fun z => ?_) (e1 Dl _ hD)) ⟨?_, fun o ho hn => ?_⟩⟩⟩
      · rw [List.length_map] at hi
        split at hi <;> split at hi <;> omega
      · rw [← z, hD] at hp
        cases hp
      · have h2 := r2.get (fun z => by rw [← z, hD] at hp; cases hp) (e1 Dl _ hD)
        exact tabs_but h2 (fun b o hb h => by rw [upd_ne hb]; exact h) r2.tb
      · obtain ⟨hl, hne⟩ := st o ho hn
        have nlp : l ≠ p := fun z => by
          rw [z, hp] at hl
          cases hl
        have h2 := r2.w l o nlp hn (e1 l _ hl)
        refine ⟨?_, hne⟩
        rw [upd_ne hne]
        exact h2
end
end K11
namespace K11
open PySem PySem.Spec PyProof.Rows L2 LG
theorem gfn_of {K : PySem.W.Frag} {h : Heap} {mg : Str → Option Value} (X : K.In h) (G : h.Ns mainGlobals mg) {x : Str} {st : Stmt} {f : Addr} {od an : Option Addr} {sl : Array (Option Value)} {oc kV dc pm cd ct : Value}
    (n : PySem.W.nsIn K mainGlobals x = some (some (.ref f))) (l : K.lookup f = some ⟨oc, od, .func (PySem.W.fnOf x x (defArgs st) (defBody st) (defScope st) .none kV dc pm an cd ct), sl⟩) (c : PySem.W.codeIn K cd x = true) (k : PySem.W.keepIn K (.ref f) = true) : GFn K mg x st f :=
  ⟨PySem.W.mg_of X G n, _, fun_mk l c k⟩
theorem gex_of {K : PySem.W.Frag} {h : Heap} {mg : Str → Option Value} (X : K.In h) (G : h.Ns mainGlobals mg) {x : Str} {C fI : Addr} {nm : Str} {q : Str} {N : Addr} {bs bm : List Value} {sn : List Str} {sub : List Value} {ab : Bool} {col : Option Bool} {dd : Option Addr}
    {k0 k1 k2 k3 k5 : Option Value}
    (n : PySem.W.nsIn K mainGlobals x = some (some (.ref C))) (l : K.lookup C = some (PySem.excClassObj nm q C N bs bm true sn sub ab col dd k0 k1 k2 k3 k5 "ValueError.__new__")) (r : PySem.HandSPX.refsVE bm = true)
    (sa : PySem.W.findIn K (.ref C) "__setattr__" = some (some (.builtin "object.__setattr__"))) (e1 : PySem.W.subIn K (.ref C) (.type "BaseException") = some true) (e2 : PySem.W.typeIn K (.ref C) = some (.type "type")) (e3 : PySem.W.keepIn K (.ref C) = true)
    (i : PySem.W.findIn K (.ref C) "__init__" = some (some (.ref fI))) (v : PySem.W.findIn K (.ref C) "value" = some none)
    (ga : PySem.W.findIn K (.ref C) "__getattribute__" = some (some (.builtin "BaseException.__getattribute__"))) (gg : PySem.W.findIn K (.ref C) "__getattr__" = some none) (hd : PySem.W.hasDictIn K C = true)
    (ha : PySem.W.findIn K (.ref C) "__class__" = some (some (.builtin "object.__class__"))) (hn : PySem.W.specialIn K (.builtin "object.__class__") "__get__" = some (some (.builtin "getset_descriptor.__get__"))) (ht : PySem.W.takesIn K (.builtin "object.__class__") = some true) (hm : PySem.W.mroIn K C (.type "object") = some true) : GEx K mg x C fI :=
  ⟨PySem.W.mg_of X G n, ⟨⟨nm, q, N, bs, bm, sn, sub, ab, col, dd, k0, k1, k2, k3, k5, l, r⟩, sa, e1, e2, e3⟩, i, v, ⟨ga, gg, e1, hd⟩, ⟨ga, gg, e1, hd, ha, hn, ht, hm⟩⟩
theorem all_facts {K : PySem.W.Frag} {mg : Str → Option Value} {w : World} {h : Heap} {fa : Addr} (l : PySem.W.OpenLaw) (X : K.In h) (G : h.Ns mainGlobals mg) (hmg : mg "law" = some (.ref fa)) (hT : h.get? 270 = some { cls := .none, data := .fields #[] })
  {f_is_integer f_is_end f_is_list f_is_value f_want_value f_want_integer f_is_not_less f_least_of f_greatest_of f_end_at f_integers_in f_is_at_least f_lesser_of f_greater_of f_at_level f_levels_of f__law_pot f__law_draw f__law_pick f__law_number f__law_shown f__law_thing f__law_things f__law_odd f__law_extreme f__law_told f__law_pairs_right f__law_levels_right f__law_extremes_right f__law_eight_right f__law_refused_right f__law_right f_law C_HeldError C_InvalidValue C_InvalidInteger C_InvalidValues f_init cR TD g_ENDS : Addr}
  {t_BOTTOM t_TOP t_NO_BOUND t_ENDS_0 t_ENDS_1 : Tok}
  {od_is_integer an_is_integer od_is_end an_is_end od_is_list an_is_list od_is_value an_is_value od_want_value an_want_value od_want_integer an_want_integer od_is_not_less an_is_not_less od_least_of an_least_of od_greatest_of an_greatest_of od_end_at an_end_at od_integers_in an_integers_in od_is_at_least an_is_at_least od_lesser_of an_lesser_of od_greater_of an_greater_of od_at_level an_at_level od_levels_of an_levels_of od__law_pot an__law_pot od__law_draw an__law_draw od__law_pick an__law_pick od__law_number an__law_number od__law_shown an__law_shown od__law_thing an__law_thing od__law_things an__law_things od__law_odd an__law_odd od__law_extreme an__law_extreme od__law_told an__law_told od__law_pairs_right an__law_pairs_right od__law_levels_right an__law_levels_right od__law_extremes_right an__law_extremes_right od__law_eight_right an__law_eight_right od__law_refused_right an__law_refused_right od__law_right an__law_right od_law an_law od_init an_init odD od_ENDS dd_HeldError dd_InvalidValue dd_InvalidInteger dd_InvalidValues : Option Addr}
  {sl_is_integer sl_is_end sl_is_list sl_is_value sl_want_value sl_want_integer sl_is_not_less sl_least_of sl_greatest_of sl_end_at sl_integers_in sl_is_at_least sl_lesser_of sl_greater_of sl_at_level sl_levels_of sl__law_pot sl__law_draw sl__law_pick sl__law_number sl__law_shown sl__law_thing sl__law_things sl__law_odd sl__law_extreme sl__law_told sl__law_pairs_right sl__law_levels_right sl__law_extremes_right sl__law_eight_right sl__law_refused_right sl__law_right sl_law sl_init slD sl_ENDS : Array (Option Value)}
  {oc_is_integer kV_is_integer dc_is_integer pm_is_integer ct_is_integer cd_is_integer oc_is_end kV_is_end dc_is_end pm_is_end ct_is_end cd_is_end oc_is_list kV_is_list dc_is_list pm_is_list ct_is_list cd_is_list oc_is_value kV_is_value dc_is_value pm_is_value ct_is_value cd_is_value oc_want_value kV_want_value dc_want_value pm_want_value ct_want_value cd_want_value oc_want_integer kV_want_integer dc_want_integer pm_want_integer ct_want_integer cd_want_integer oc_is_not_less kV_is_not_less dc_is_not_less pm_is_not_less ct_is_not_less cd_is_not_less oc_least_of kV_least_of dc_least_of pm_least_of ct_least_of cd_least_of oc_greatest_of kV_greatest_of dc_greatest_of pm_greatest_of ct_greatest_of cd_greatest_of oc_end_at kV_end_at dc_end_at pm_end_at ct_end_at cd_end_at oc_integers_in kV_integers_in dc_integers_in pm_integers_in ct_integers_in cd_integers_in oc_is_at_least kV_is_at_least dc_is_at_least pm_is_at_least ct_is_at_least cd_is_at_least oc_lesser_of kV_lesser_of dc_lesser_of pm_lesser_of ct_lesser_of cd_lesser_of oc_greater_of kV_greater_of dc_greater_of pm_greater_of ct_greater_of cd_greater_of oc_at_level kV_at_level dc_at_level pm_at_level ct_at_level cd_at_level oc_levels_of kV_levels_of dc_levels_of pm_levels_of ct_levels_of cd_levels_of oc__law_pot kV__law_pot dc__law_pot pm__law_pot ct__law_pot cd__law_pot oc__law_draw kV__law_draw dc__law_draw pm__law_draw ct__law_draw cd__law_draw oc__law_pick kV__law_pick dc__law_pick pm__law_pick ct__law_pick cd__law_pick oc__law_number kV__law_number dc__law_number pm__law_number ct__law_number cd__law_number oc__law_shown kV__law_shown dc__law_shown pm__law_shown ct__law_shown cd__law_shown oc__law_thing kV__law_thing dc__law_thing pm__law_thing ct__law_thing cd__law_thing oc__law_things kV__law_things dc__law_things pm__law_things ct__law_things cd__law_things oc__law_odd kV__law_odd dc__law_odd pm__law_odd ct__law_odd cd__law_odd oc__law_extreme kV__law_extreme dc__law_extreme pm__law_extreme ct__law_extreme cd__law_extreme oc__law_told kV__law_told dc__law_told pm__law_told ct__law_told cd__law_told oc__law_pairs_right kV__law_pairs_right dc__law_pairs_right pm__law_pairs_right ct__law_pairs_right cd__law_pairs_right oc__law_levels_right kV__law_levels_right dc__law_levels_right pm__law_levels_right ct__law_levels_right cd__law_levels_right oc__law_extremes_right kV__law_extremes_right dc__law_extremes_right pm__law_extremes_right ct__law_extremes_right cd__law_extremes_right oc__law_eight_right kV__law_eight_right dc__law_eight_right pm__law_eight_right ct__law_eight_right cd__law_eight_right oc__law_refused_right kV__law_refused_right dc__law_refused_right pm__law_refused_right ct__law_refused_right oc__law_right kV__law_right dc__law_right pm__law_right ct__law_right cd__law_right oc_law kV_law dc_law pm_law ct_law cd_law oc_init kV_init dc_init pm_init ct_init cd_init ocD : Value}
  {nD n_ENDS : Nat}
  {nm_HeldError q_HeldError nm_InvalidValue q_InvalidValue nm_InvalidInteger q_InvalidInteger nm_InvalidValues q_InvalidValues : Str} {N_HeldError N_InvalidValue N_InvalidInteger N_InvalidValues : Addr} {bs_HeldError bm_HeldError bs_InvalidValue bm_InvalidValue bs_InvalidInteger bm_InvalidInteger bs_InvalidValues bm_InvalidValues : List Value} {sn_HeldError sn_InvalidValue sn_InvalidInteger sn_InvalidValues : List Str} {sub_HeldError sub_InvalidValue sub_InvalidInteger sub_InvalidValues : List Value} {ab_HeldError ab_InvalidValue ab_InvalidInteger ab_InvalidValues : Bool} {col_HeldError col_InvalidValue col_InvalidInteger col_InvalidValues : Option Bool} {k0_HeldError k1_HeldError k2_HeldError k3_HeldError k5_HeldError k0_InvalidValue k1_InvalidValue k2_InvalidValue k3_InvalidValue k5_InvalidValue k0_InvalidInteger k1_InvalidInteger k2_InvalidInteger k3_InvalidInteger k5_InvalidInteger k0_InvalidValues k1_InvalidValues k2_InvalidValues k3_InvalidValues k5_InvalidValues : Option Value}
  (h_n_is_integer : PySem.W.nsIn K mainGlobals "is_integer" = some (some (.ref f_is_integer)))
  (h_l_is_integer : K.lookup f_is_integer = some ⟨oc_is_integer, od_is_integer, .func (PySem.W.fnOf "is_integer" "is_integer" (defArgs s_is_integer) (defBody s_is_integer) (defScope s_is_integer) .none kV_is_integer dc_is_integer pm_is_integer an_is_integer cd_is_integer ct_is_integer), sl_is_integer⟩)
  (h_c_is_integer : PySem.W.codeIn K cd_is_integer "is_integer" = true)
  (h_k_is_integer : PySem.W.keepIn K (.ref f_is_integer) = true)
  (h_n_is_end : PySem.W.nsIn K mainGlobals "is_end" = some (some (.ref f_is_end)))
  (h_l_is_end : K.lookup f_is_end = some ⟨oc_is_end, od_is_end, .func (PySem.W.fnOf "is_end" "is_end" (defArgs s_is_end) (defBody s_is_end) (defScope s_is_end) .none kV_is_end dc_is_end pm_is_end an_is_end cd_is_end ct_is_end), sl_is_end⟩)
  (h_c_is_end : PySem.W.codeIn K cd_is_end "is_end" = true)
  (h_k_is_end : PySem.W.keepIn K (.ref f_is_end) = true)
  (h_n_is_list : PySem.W.nsIn K mainGlobals "is_list" = some (some (.ref f_is_list)))
  (h_l_is_list : K.lookup f_is_list = some ⟨oc_is_list, od_is_list, .func (PySem.W.fnOf "is_list" "is_list" (defArgs s_is_list) (defBody s_is_list) (defScope s_is_list) .none kV_is_list dc_is_list pm_is_list an_is_list cd_is_list ct_is_list), sl_is_list⟩)
  (h_c_is_list : PySem.W.codeIn K cd_is_list "is_list" = true)
  (h_k_is_list : PySem.W.keepIn K (.ref f_is_list) = true)
  (h_n_is_value : PySem.W.nsIn K mainGlobals "is_value" = some (some (.ref f_is_value)))
  (h_l_is_value : K.lookup f_is_value = some ⟨oc_is_value, od_is_value, .func (PySem.W.fnOf "is_value" "is_value" (defArgs s_is_value) (defBody s_is_value) (defScope s_is_value) .none kV_is_value dc_is_value pm_is_value an_is_value cd_is_value ct_is_value), sl_is_value⟩)
  (h_c_is_value : PySem.W.codeIn K cd_is_value "is_value" = true)
  (h_k_is_value : PySem.W.keepIn K (.ref f_is_value) = true)
  (h_n_want_value : PySem.W.nsIn K mainGlobals "want_value" = some (some (.ref f_want_value)))
  (h_l_want_value : K.lookup f_want_value = some ⟨oc_want_value, od_want_value, .func (PySem.W.fnOf "want_value" "want_value" (defArgs s_want_value) (defBody s_want_value) (defScope s_want_value) .none kV_want_value dc_want_value pm_want_value an_want_value cd_want_value ct_want_value), sl_want_value⟩)
  (h_c_want_value : PySem.W.codeIn K cd_want_value "want_value" = true)
  (h_k_want_value : PySem.W.keepIn K (.ref f_want_value) = true)
  (h_n_want_integer : PySem.W.nsIn K mainGlobals "want_integer" = some (some (.ref f_want_integer)))
  (h_l_want_integer : K.lookup f_want_integer = some ⟨oc_want_integer, od_want_integer, .func (PySem.W.fnOf "want_integer" "want_integer" (defArgs s_want_integer) (defBody s_want_integer) (defScope s_want_integer) .none kV_want_integer dc_want_integer pm_want_integer an_want_integer cd_want_integer ct_want_integer), sl_want_integer⟩)
  (h_c_want_integer : PySem.W.codeIn K cd_want_integer "want_integer" = true)
  (h_k_want_integer : PySem.W.keepIn K (.ref f_want_integer) = true)
  (h_n_is_not_less : PySem.W.nsIn K mainGlobals "is_not_less" = some (some (.ref f_is_not_less)))
  (h_l_is_not_less : K.lookup f_is_not_less = some ⟨oc_is_not_less, od_is_not_less, .func (PySem.W.fnOf "is_not_less" "is_not_less" (defArgs s_is_not_less) (defBody s_is_not_less) (defScope s_is_not_less) .none kV_is_not_less dc_is_not_less pm_is_not_less an_is_not_less cd_is_not_less ct_is_not_less), sl_is_not_less⟩)
  (h_c_is_not_less : PySem.W.codeIn K cd_is_not_less "is_not_less" = true)
  (h_k_is_not_less : PySem.W.keepIn K (.ref f_is_not_less) = true)
  (h_n_least_of : PySem.W.nsIn K mainGlobals "least_of" = some (some (.ref f_least_of)))
  (h_l_least_of : K.lookup f_least_of = some ⟨oc_least_of, od_least_of, .func (PySem.W.fnOf "least_of" "least_of" (defArgs s_least_of) (defBody s_least_of) (defScope s_least_of) .none kV_least_of dc_least_of pm_least_of an_least_of cd_least_of ct_least_of), sl_least_of⟩)
  (h_c_least_of : PySem.W.codeIn K cd_least_of "least_of" = true)
  (h_k_least_of : PySem.W.keepIn K (.ref f_least_of) = true)
  (h_n_greatest_of : PySem.W.nsIn K mainGlobals "greatest_of" = some (some (.ref f_greatest_of)))
  (h_l_greatest_of : K.lookup f_greatest_of = some ⟨oc_greatest_of, od_greatest_of, .func (PySem.W.fnOf "greatest_of" "greatest_of" (defArgs s_greatest_of) (defBody s_greatest_of) (defScope s_greatest_of) .none kV_greatest_of dc_greatest_of pm_greatest_of an_greatest_of cd_greatest_of ct_greatest_of), sl_greatest_of⟩)
  (h_c_greatest_of : PySem.W.codeIn K cd_greatest_of "greatest_of" = true)
  (h_k_greatest_of : PySem.W.keepIn K (.ref f_greatest_of) = true)
  (h_n_end_at : PySem.W.nsIn K mainGlobals "end_at" = some (some (.ref f_end_at)))
  (h_l_end_at : K.lookup f_end_at = some ⟨oc_end_at, od_end_at, .func (PySem.W.fnOf "end_at" "end_at" (defArgs s_end_at) (defBody s_end_at) (defScope s_end_at) .none kV_end_at dc_end_at pm_end_at an_end_at cd_end_at ct_end_at), sl_end_at⟩)
  (h_c_end_at : PySem.W.codeIn K cd_end_at "end_at" = true)
  (h_k_end_at : PySem.W.keepIn K (.ref f_end_at) = true)
  (h_n_integers_in : PySem.W.nsIn K mainGlobals "integers_in" = some (some (.ref f_integers_in)))
  (h_l_integers_in : K.lookup f_integers_in = some ⟨oc_integers_in, od_integers_in, .func (PySem.W.fnOf "integers_in" "integers_in" (defArgs s_integers_in) (defBody s_integers_in) (defScope s_integers_in) .none kV_integers_in dc_integers_in pm_integers_in an_integers_in cd_integers_in ct_integers_in), sl_integers_in⟩)
  (h_c_integers_in : PySem.W.codeIn K cd_integers_in "integers_in" = true)
  (h_k_integers_in : PySem.W.keepIn K (.ref f_integers_in) = true)
  (h_n_is_at_least : PySem.W.nsIn K mainGlobals "is_at_least" = some (some (.ref f_is_at_least)))
  (h_l_is_at_least : K.lookup f_is_at_least = some ⟨oc_is_at_least, od_is_at_least, .func (PySem.W.fnOf "is_at_least" "is_at_least" (defArgs s_is_at_least) (defBody s_is_at_least) (defScope s_is_at_least) .none kV_is_at_least dc_is_at_least pm_is_at_least an_is_at_least cd_is_at_least ct_is_at_least), sl_is_at_least⟩)
  (h_c_is_at_least : PySem.W.codeIn K cd_is_at_least "is_at_least" = true)
  (h_k_is_at_least : PySem.W.keepIn K (.ref f_is_at_least) = true)
  (h_n_lesser_of : PySem.W.nsIn K mainGlobals "lesser_of" = some (some (.ref f_lesser_of)))
  (h_l_lesser_of : K.lookup f_lesser_of = some ⟨oc_lesser_of, od_lesser_of, .func (PySem.W.fnOf "lesser_of" "lesser_of" (defArgs s_lesser_of) (defBody s_lesser_of) (defScope s_lesser_of) .none kV_lesser_of dc_lesser_of pm_lesser_of an_lesser_of cd_lesser_of ct_lesser_of), sl_lesser_of⟩)
  (h_c_lesser_of : PySem.W.codeIn K cd_lesser_of "lesser_of" = true)
  (h_k_lesser_of : PySem.W.keepIn K (.ref f_lesser_of) = true)
  (h_n_greater_of : PySem.W.nsIn K mainGlobals "greater_of" = some (some (.ref f_greater_of)))
  (h_l_greater_of : K.lookup f_greater_of = some ⟨oc_greater_of, od_greater_of, .func (PySem.W.fnOf "greater_of" "greater_of" (defArgs s_greater_of) (defBody s_greater_of) (defScope s_greater_of) .none kV_greater_of dc_greater_of pm_greater_of an_greater_of cd_greater_of ct_greater_of), sl_greater_of⟩)
  (h_c_greater_of : PySem.W.codeIn K cd_greater_of "greater_of" = true)
  (h_k_greater_of : PySem.W.keepIn K (.ref f_greater_of) = true)
  (h_n_at_level : PySem.W.nsIn K mainGlobals "at_level" = some (some (.ref f_at_level)))
  (h_l_at_level : K.lookup f_at_level = some ⟨oc_at_level, od_at_level, .func (PySem.W.fnOf "at_level" "at_level" (defArgs s_at_level) (defBody s_at_level) (defScope s_at_level) .none kV_at_level dc_at_level pm_at_level an_at_level cd_at_level ct_at_level), sl_at_level⟩)
  (h_c_at_level : PySem.W.codeIn K cd_at_level "at_level" = true)
  (h_k_at_level : PySem.W.keepIn K (.ref f_at_level) = true)
  (h_n_levels_of : PySem.W.nsIn K mainGlobals "levels_of" = some (some (.ref f_levels_of)))
  (h_l_levels_of : K.lookup f_levels_of = some ⟨oc_levels_of, od_levels_of, .func (PySem.W.fnOf "levels_of" "levels_of" (defArgs s_levels_of) (defBody s_levels_of) (defScope s_levels_of) .none kV_levels_of dc_levels_of pm_levels_of an_levels_of cd_levels_of ct_levels_of), sl_levels_of⟩)
  (h_c_levels_of : PySem.W.codeIn K cd_levels_of "levels_of" = true)
  (h_k_levels_of : PySem.W.keepIn K (.ref f_levels_of) = true)
  (h_n__law_pot : PySem.W.nsIn K mainGlobals "_law_pot" = some (some (.ref f__law_pot)))
  (h_l__law_pot : K.lookup f__law_pot = some ⟨oc__law_pot, od__law_pot, .func (PySem.W.fnOf "_law_pot" "_law_pot" (defArgs s__law_pot) (defBody s__law_pot) (defScope s__law_pot) .none kV__law_pot dc__law_pot pm__law_pot an__law_pot cd__law_pot ct__law_pot), sl__law_pot⟩)
  (h_c__law_pot : PySem.W.codeIn K cd__law_pot "_law_pot" = true)
  (h_k__law_pot : PySem.W.keepIn K (.ref f__law_pot) = true)
  (h_n__law_draw : PySem.W.nsIn K mainGlobals "_law_draw" = some (some (.ref f__law_draw)))
  (h_l__law_draw : K.lookup f__law_draw = some ⟨oc__law_draw, od__law_draw, .func (PySem.W.fnOf "_law_draw" "_law_draw" (defArgs s__law_draw) (defBody s__law_draw) (defScope s__law_draw) .none kV__law_draw dc__law_draw pm__law_draw an__law_draw cd__law_draw ct__law_draw), sl__law_draw⟩)
  (h_c__law_draw : PySem.W.codeIn K cd__law_draw "_law_draw" = true)
  (h_k__law_draw : PySem.W.keepIn K (.ref f__law_draw) = true)
  (h_n__law_pick : PySem.W.nsIn K mainGlobals "_law_pick" = some (some (.ref f__law_pick)))
  (h_l__law_pick : K.lookup f__law_pick = some ⟨oc__law_pick, od__law_pick, .func (PySem.W.fnOf "_law_pick" "_law_pick" (defArgs s__law_pick) (defBody s__law_pick) (defScope s__law_pick) .none kV__law_pick dc__law_pick pm__law_pick an__law_pick cd__law_pick ct__law_pick), sl__law_pick⟩)
  (h_c__law_pick : PySem.W.codeIn K cd__law_pick "_law_pick" = true)
  (h_k__law_pick : PySem.W.keepIn K (.ref f__law_pick) = true)
  (h_n__law_number : PySem.W.nsIn K mainGlobals "_law_number" = some (some (.ref f__law_number)))
  (h_l__law_number : K.lookup f__law_number = some ⟨oc__law_number, od__law_number, .func (PySem.W.fnOf "_law_number" "_law_number" (defArgs s__law_number) (defBody s__law_number) (defScope s__law_number) .none kV__law_number dc__law_number pm__law_number an__law_number cd__law_number ct__law_number), sl__law_number⟩)
  (h_c__law_number : PySem.W.codeIn K cd__law_number "_law_number" = true)
  (h_k__law_number : PySem.W.keepIn K (.ref f__law_number) = true)
  (h_n__law_shown : PySem.W.nsIn K mainGlobals "_law_shown" = some (some (.ref f__law_shown)))
  (h_l__law_shown : K.lookup f__law_shown = some ⟨oc__law_shown, od__law_shown, .func (PySem.W.fnOf "_law_shown" "_law_shown" (defArgs s__law_shown) (defBody s__law_shown) (defScope s__law_shown) .none kV__law_shown dc__law_shown pm__law_shown an__law_shown cd__law_shown ct__law_shown), sl__law_shown⟩)
  (h_c__law_shown : PySem.W.codeIn K cd__law_shown "_law_shown" = true)
  (h_k__law_shown : PySem.W.keepIn K (.ref f__law_shown) = true)
  (h_n__law_thing : PySem.W.nsIn K mainGlobals "_law_thing" = some (some (.ref f__law_thing)))
  (h_l__law_thing : K.lookup f__law_thing = some ⟨oc__law_thing, od__law_thing, .func (PySem.W.fnOf "_law_thing" "_law_thing" (defArgs s__law_thing) (defBody s__law_thing) (defScope s__law_thing) .none kV__law_thing dc__law_thing pm__law_thing an__law_thing cd__law_thing ct__law_thing), sl__law_thing⟩)
  (h_c__law_thing : PySem.W.codeIn K cd__law_thing "_law_thing" = true)
  (h_k__law_thing : PySem.W.keepIn K (.ref f__law_thing) = true)
  (h_n__law_things : PySem.W.nsIn K mainGlobals "_law_things" = some (some (.ref f__law_things)))
  (h_l__law_things : K.lookup f__law_things = some ⟨oc__law_things, od__law_things, .func (PySem.W.fnOf "_law_things" "_law_things" (defArgs s__law_things) (defBody s__law_things) (defScope s__law_things) .none kV__law_things dc__law_things pm__law_things an__law_things cd__law_things ct__law_things), sl__law_things⟩)
  (h_c__law_things : PySem.W.codeIn K cd__law_things "_law_things" = true)
  (h_k__law_things : PySem.W.keepIn K (.ref f__law_things) = true)
  (h_n__law_odd : PySem.W.nsIn K mainGlobals "_law_odd" = some (some (.ref f__law_odd)))
  (h_l__law_odd : K.lookup f__law_odd = some ⟨oc__law_odd, od__law_odd, .func (PySem.W.fnOf "_law_odd" "_law_odd" (defArgs s__law_odd) (defBody s__law_odd) (defScope s__law_odd) .none kV__law_odd dc__law_odd pm__law_odd an__law_odd cd__law_odd ct__law_odd), sl__law_odd⟩)
  (h_c__law_odd : PySem.W.codeIn K cd__law_odd "_law_odd" = true)
  (h_k__law_odd : PySem.W.keepIn K (.ref f__law_odd) = true)
  (h_n__law_extreme : PySem.W.nsIn K mainGlobals "_law_extreme" = some (some (.ref f__law_extreme)))
  (h_l__law_extreme : K.lookup f__law_extreme = some ⟨oc__law_extreme, od__law_extreme, .func (PySem.W.fnOf "_law_extreme" "_law_extreme" (defArgs s__law_extreme) (defBody s__law_extreme) (defScope s__law_extreme) .none kV__law_extreme dc__law_extreme pm__law_extreme an__law_extreme cd__law_extreme ct__law_extreme), sl__law_extreme⟩)
  (h_c__law_extreme : PySem.W.codeIn K cd__law_extreme "_law_extreme" = true)
  (h_k__law_extreme : PySem.W.keepIn K (.ref f__law_extreme) = true)
  (h_n__law_told : PySem.W.nsIn K mainGlobals "_law_told" = some (some (.ref f__law_told)))
  (h_l__law_told : K.lookup f__law_told = some ⟨oc__law_told, od__law_told, .func (PySem.W.fnOf "_law_told" "_law_told" (defArgs s__law_told) (defBody s__law_told) (defScope s__law_told) .none kV__law_told dc__law_told pm__law_told an__law_told cd__law_told ct__law_told), sl__law_told⟩)
  (h_c__law_told : PySem.W.codeIn K cd__law_told "_law_told" = true)
  (h_k__law_told : PySem.W.keepIn K (.ref f__law_told) = true)
  (h_n__law_pairs_right : PySem.W.nsIn K mainGlobals "_law_pairs_right" = some (some (.ref f__law_pairs_right)))
  (h_l__law_pairs_right : K.lookup f__law_pairs_right = some ⟨oc__law_pairs_right, od__law_pairs_right, .func (PySem.W.fnOf "_law_pairs_right" "_law_pairs_right" (defArgs s__law_pairs_right) (defBody s__law_pairs_right) (defScope s__law_pairs_right) .none kV__law_pairs_right dc__law_pairs_right pm__law_pairs_right an__law_pairs_right cd__law_pairs_right ct__law_pairs_right), sl__law_pairs_right⟩)
  (h_c__law_pairs_right : PySem.W.codeIn K cd__law_pairs_right "_law_pairs_right" = true)
  (h_k__law_pairs_right : PySem.W.keepIn K (.ref f__law_pairs_right) = true)
  (h_n__law_levels_right : PySem.W.nsIn K mainGlobals "_law_levels_right" = some (some (.ref f__law_levels_right)))
  (h_l__law_levels_right : K.lookup f__law_levels_right = some ⟨oc__law_levels_right, od__law_levels_right, .func (PySem.W.fnOf "_law_levels_right" "_law_levels_right" (defArgs s__law_levels_right) (defBody s__law_levels_right) (defScope s__law_levels_right) .none kV__law_levels_right dc__law_levels_right pm__law_levels_right an__law_levels_right cd__law_levels_right ct__law_levels_right), sl__law_levels_right⟩)
  (h_c__law_levels_right : PySem.W.codeIn K cd__law_levels_right "_law_levels_right" = true)
  (h_k__law_levels_right : PySem.W.keepIn K (.ref f__law_levels_right) = true)
  (h_n__law_extremes_right : PySem.W.nsIn K mainGlobals "_law_extremes_right" = some (some (.ref f__law_extremes_right)))
  (h_l__law_extremes_right : K.lookup f__law_extremes_right = some ⟨oc__law_extremes_right, od__law_extremes_right, .func (PySem.W.fnOf "_law_extremes_right" "_law_extremes_right" (defArgs s__law_extremes_right) (defBody s__law_extremes_right) (defScope s__law_extremes_right) .none kV__law_extremes_right dc__law_extremes_right pm__law_extremes_right an__law_extremes_right cd__law_extremes_right ct__law_extremes_right), sl__law_extremes_right⟩)
  (h_c__law_extremes_right : PySem.W.codeIn K cd__law_extremes_right "_law_extremes_right" = true)
  (h_k__law_extremes_right : PySem.W.keepIn K (.ref f__law_extremes_right) = true)
  (h_n__law_eight_right : PySem.W.nsIn K mainGlobals "_law_eight_right" = some (some (.ref f__law_eight_right)))
  (h_l__law_eight_right : K.lookup f__law_eight_right = some ⟨oc__law_eight_right, od__law_eight_right, .func (PySem.W.fnOf "_law_eight_right" "_law_eight_right" (defArgs s__law_eight_right) (defBody s__law_eight_right) (defScope s__law_eight_right) .none kV__law_eight_right dc__law_eight_right pm__law_eight_right an__law_eight_right cd__law_eight_right ct__law_eight_right), sl__law_eight_right⟩)
  (h_c__law_eight_right : PySem.W.codeIn K cd__law_eight_right "_law_eight_right" = true)
  (h_k__law_eight_right : PySem.W.keepIn K (.ref f__law_eight_right) = true)
  (h_n__law_refused_right : PySem.W.nsIn K mainGlobals "_law_refused_right" = some (some (.ref f__law_refused_right)))
  (h_l__law_refused_right : K.lookup f__law_refused_right = some ⟨oc__law_refused_right, od__law_refused_right, .func (PySem.W.fnOf "_law_refused_right" "_law_refused_right" (defArgs s__law_refused_right) (defBody s__law_refused_right) (defScope s__law_refused_right) .none kV__law_refused_right dc__law_refused_right pm__law_refused_right an__law_refused_right (.ref cR) ct__law_refused_right), sl__law_refused_right⟩)
  (h_c__law_refused_right : PySem.W.codeIn K (.ref cR) "_law_refused_right" = true)
  (h_k__law_refused_right : PySem.W.keepIn K (.ref f__law_refused_right) = true)
  (h_n__law_right : PySem.W.nsIn K mainGlobals "_law_right" = some (some (.ref f__law_right)))
  (h_l__law_right : K.lookup f__law_right = some ⟨oc__law_right, od__law_right, .func (PySem.W.fnOf "_law_right" "_law_right" (defArgs s__law_right) (defBody s__law_right) (defScope s__law_right) .none kV__law_right dc__law_right pm__law_right an__law_right cd__law_right ct__law_right), sl__law_right⟩)
  (h_c__law_right : PySem.W.codeIn K cd__law_right "_law_right" = true)
  (h_k__law_right : PySem.W.keepIn K (.ref f__law_right) = true)
  (h_n_law : PySem.W.nsIn K mainGlobals "law" = some (some (.ref f_law)))
  (h_l_law : K.lookup f_law = some ⟨oc_law, od_law, .func (PySem.W.fnOf "law" "law" (defArgs s_law) (defBody s_law) (defScope s_law) .none kV_law dc_law pm_law an_law cd_law ct_law), sl_law⟩)
  (h_c_law : PySem.W.codeIn K cd_law "law" = true)
  (h_k_law : PySem.W.keepIn K (.ref f_law) = true)
  (h_z_ValueError : PySem.W.nsIn K mainGlobals "ValueError" = some none)
  (h_z_abs : PySem.W.nsIn K mainGlobals "abs" = some none)
  (h_z_all : PySem.W.nsIn K mainGlobals "all" = some none)
  (h_z_bool : PySem.W.nsIn K mainGlobals "bool" = some none)
  (h_z_divmod : PySem.W.nsIn K mainGlobals "divmod" = some none)
  (h_z_int : PySem.W.nsIn K mainGlobals "int" = some none)
  (h_z_isinstance : PySem.W.nsIn K mainGlobals "isinstance" = some none)
  (h_z_len : PySem.W.nsIn K mainGlobals "len" = some none)
  (h_z_list : PySem.W.nsIn K mainGlobals "list" = some none)
  (h_z_max : PySem.W.nsIn K mainGlobals "max" = some none)
  (h_z_min : PySem.W.nsIn K mainGlobals "min" = some none)
  (h_z_range : PySem.W.nsIn K mainGlobals "range" = some none)
  (h_z_repr : PySem.W.nsIn K mainGlobals "repr" = some none)
  (h_z_set : PySem.W.nsIn K mainGlobals "set" = some none)
  (h_z_sorted : PySem.W.nsIn K mainGlobals "sorted" = some none)
  (h_z_str : PySem.W.nsIn K mainGlobals "str" = some none)
  (h_z_tuple : PySem.W.nsIn K mainGlobals "tuple" = some none)
  (h_v_BOTTOM : PySem.W.nsIn K mainGlobals "BOTTOM" = some (some (.str "bottom" t_BOTTOM)))
  (h_v_TOP : PySem.W.nsIn K mainGlobals "TOP" = some (some (.str "top" t_TOP)))
  (h_v_NO_BOUND : PySem.W.nsIn K mainGlobals "NO_BOUND" = some (some (.str "no bound" t_NO_BOUND)))
  (h_v_ENDS : PySem.W.nsIn K mainGlobals "ENDS" = some (some (.ref g_ENDS)))
  (h_l_ENDS : K.lookup g_ENDS = some ⟨.type "tuple", od_ENDS, .seq #[.str "bottom" t_ENDS_0, .str "top" t_ENDS_1] n_ENDS, sl_ENDS⟩)
  (e_n_HeldError : PySem.W.nsIn K mainGlobals "HeldError" = some (some (.ref C_HeldError)))
  (e_l_HeldError : K.lookup C_HeldError = some (PySem.excClassObj nm_HeldError q_HeldError C_HeldError N_HeldError bs_HeldError bm_HeldError true sn_HeldError sub_HeldError ab_HeldError col_HeldError dd_HeldError k0_HeldError k1_HeldError k2_HeldError k3_HeldError k5_HeldError "ValueError.__new__"))
  (e_r_HeldError : PySem.HandSPX.refsVE bm_HeldError = true)
  (e_sa_HeldError : PySem.W.findIn K (.ref C_HeldError) "__setattr__" = some (some (.builtin "object.__setattr__")))
  (e_e1_HeldError : PySem.W.subIn K (.ref C_HeldError) (.type "BaseException") = some true)
  (e_e2_HeldError : PySem.W.typeIn K (.ref C_HeldError) = some (.type "type"))
  (e_e3_HeldError : PySem.W.keepIn K (.ref C_HeldError) = true)
  (e_i_HeldError : PySem.W.findIn K (.ref C_HeldError) "__init__" = some (some (.ref f_init)))
  (e_v_HeldError : PySem.W.findIn K (.ref C_HeldError) "value" = some none)
  (e_ga_HeldError : PySem.W.findIn K (.ref C_HeldError) "__getattribute__" = some (some (.builtin "BaseException.__getattribute__")))
  (e_gg_HeldError : PySem.W.findIn K (.ref C_HeldError) "__getattr__" = some none)
  (e_hd_HeldError : PySem.W.hasDictIn K C_HeldError = true)
  (e_ha_HeldError : PySem.W.findIn K (.ref C_HeldError) "__class__" = some (some (.builtin "object.__class__")))
  (e_hm_HeldError : PySem.W.mroIn K C_HeldError (.type "object") = some true)
  (e_n_InvalidValue : PySem.W.nsIn K mainGlobals "InvalidValue" = some (some (.ref C_InvalidValue)))
  (e_l_InvalidValue : K.lookup C_InvalidValue = some (PySem.excClassObj nm_InvalidValue q_InvalidValue C_InvalidValue N_InvalidValue bs_InvalidValue bm_InvalidValue true sn_InvalidValue sub_InvalidValue ab_InvalidValue col_InvalidValue dd_InvalidValue k0_InvalidValue k1_InvalidValue k2_InvalidValue k3_InvalidValue k5_InvalidValue "ValueError.__new__"))
  (e_r_InvalidValue : PySem.HandSPX.refsVE bm_InvalidValue = true)
  (e_sa_InvalidValue : PySem.W.findIn K (.ref C_InvalidValue) "__setattr__" = some (some (.builtin "object.__setattr__")))
  (e_e1_InvalidValue : PySem.W.subIn K (.ref C_InvalidValue) (.type "BaseException") = some true)
  (e_e2_InvalidValue : PySem.W.typeIn K (.ref C_InvalidValue) = some (.type "type"))
  (e_e3_InvalidValue : PySem.W.keepIn K (.ref C_InvalidValue) = true)
  (e_i_InvalidValue : PySem.W.findIn K (.ref C_InvalidValue) "__init__" = some (some (.ref f_init)))
  (e_v_InvalidValue : PySem.W.findIn K (.ref C_InvalidValue) "value" = some none)
  (e_ga_InvalidValue : PySem.W.findIn K (.ref C_InvalidValue) "__getattribute__" = some (some (.builtin "BaseException.__getattribute__")))
  (e_gg_InvalidValue : PySem.W.findIn K (.ref C_InvalidValue) "__getattr__" = some none)
  (e_hd_InvalidValue : PySem.W.hasDictIn K C_InvalidValue = true)
  (e_ha_InvalidValue : PySem.W.findIn K (.ref C_InvalidValue) "__class__" = some (some (.builtin "object.__class__")))
  (e_hm_InvalidValue : PySem.W.mroIn K C_InvalidValue (.type "object") = some true)
  (e_n_InvalidInteger : PySem.W.nsIn K mainGlobals "InvalidInteger" = some (some (.ref C_InvalidInteger)))
  (e_l_InvalidInteger : K.lookup C_InvalidInteger = some (PySem.excClassObj nm_InvalidInteger q_InvalidInteger C_InvalidInteger N_InvalidInteger bs_InvalidInteger bm_InvalidInteger true sn_InvalidInteger sub_InvalidInteger ab_InvalidInteger col_InvalidInteger dd_InvalidInteger k0_InvalidInteger k1_InvalidInteger k2_InvalidInteger k3_InvalidInteger k5_InvalidInteger "ValueError.__new__"))
  (e_r_InvalidInteger : PySem.HandSPX.refsVE bm_InvalidInteger = true)
  (e_sa_InvalidInteger : PySem.W.findIn K (.ref C_InvalidInteger) "__setattr__" = some (some (.builtin "object.__setattr__")))
  (e_e1_InvalidInteger : PySem.W.subIn K (.ref C_InvalidInteger) (.type "BaseException") = some true)
  (e_e2_InvalidInteger : PySem.W.typeIn K (.ref C_InvalidInteger) = some (.type "type"))
  (e_e3_InvalidInteger : PySem.W.keepIn K (.ref C_InvalidInteger) = true)
  (e_i_InvalidInteger : PySem.W.findIn K (.ref C_InvalidInteger) "__init__" = some (some (.ref f_init)))
  (e_v_InvalidInteger : PySem.W.findIn K (.ref C_InvalidInteger) "value" = some none)
  (e_ga_InvalidInteger : PySem.W.findIn K (.ref C_InvalidInteger) "__getattribute__" = some (some (.builtin "BaseException.__getattribute__")))
  (e_gg_InvalidInteger : PySem.W.findIn K (.ref C_InvalidInteger) "__getattr__" = some none)
  (e_hd_InvalidInteger : PySem.W.hasDictIn K C_InvalidInteger = true)
  (e_ha_InvalidInteger : PySem.W.findIn K (.ref C_InvalidInteger) "__class__" = some (some (.builtin "object.__class__")))
  (e_hm_InvalidInteger : PySem.W.mroIn K C_InvalidInteger (.type "object") = some true)
  (e_n_InvalidValues : PySem.W.nsIn K mainGlobals "InvalidValues" = some (some (.ref C_InvalidValues)))
  (e_l_InvalidValues : K.lookup C_InvalidValues = some (PySem.excClassObj nm_InvalidValues q_InvalidValues C_InvalidValues N_InvalidValues bs_InvalidValues bm_InvalidValues true sn_InvalidValues sub_InvalidValues ab_InvalidValues col_InvalidValues dd_InvalidValues k0_InvalidValues k1_InvalidValues k2_InvalidValues k3_InvalidValues k5_InvalidValues "ValueError.__new__"))
  (e_r_InvalidValues : PySem.HandSPX.refsVE bm_InvalidValues = true)
  (e_sa_InvalidValues : PySem.W.findIn K (.ref C_InvalidValues) "__setattr__" = some (some (.builtin "object.__setattr__")))
  (e_e1_InvalidValues : PySem.W.subIn K (.ref C_InvalidValues) (.type "BaseException") = some true)
  (e_e2_InvalidValues : PySem.W.typeIn K (.ref C_InvalidValues) = some (.type "type"))
  (e_e3_InvalidValues : PySem.W.keepIn K (.ref C_InvalidValues) = true)
  (e_i_InvalidValues : PySem.W.findIn K (.ref C_InvalidValues) "__init__" = some (some (.ref f_init)))
  (e_v_InvalidValues : PySem.W.findIn K (.ref C_InvalidValues) "value" = some none)
  (e_ga_InvalidValues : PySem.W.findIn K (.ref C_InvalidValues) "__getattribute__" = some (some (.builtin "BaseException.__getattribute__")))
  (e_gg_InvalidValues : PySem.W.findIn K (.ref C_InvalidValues) "__getattr__" = some none)
  (e_hd_InvalidValues : PySem.W.hasDictIn K C_InvalidValues = true)
  (e_ha_InvalidValues : PySem.W.findIn K (.ref C_InvalidValues) "__class__" = some (some (.builtin "object.__class__")))
  (e_hm_InvalidValues : PySem.W.mroIn K C_InvalidValues (.type "object") = some true)
  (e_hn : PySem.W.specialIn K (.builtin "object.__class__") "__get__" = some (some (.builtin "getset_descriptor.__get__")))
  (e_ht : PySem.W.takesIn K (.builtin "object.__class__") = some true)
  (h_ti : PySem.W.typeIn K (.ref f_init) = some (.type "function"))
  (h_il : K.lookup f_init = some ⟨oc_init, od_init, .func (PySem.W.fnOf "__init__" "HeldError.__init__" (defArgs s_init) (defBody s_init) (defScope s_init) (.ref TD) kV_init dc_init pm_init an_init cd_init ct_init), sl_init⟩)
  (h_ic : PySem.W.codeIn K cd_init "HeldError.__init__" = true)
  (h_ik : PySem.W.keepIn K (.ref f_init) = true)
  (h_iD : K.lookup TD = some ⟨ocD, odD, .seq #[.none] nD, slD⟩)
  (x_HeldError_HeldError : PySem.W.subIn K (.ref C_HeldError) (.ref C_HeldError) = some true)
  (x_HeldError_InvalidValue : PySem.W.subIn K (.ref C_HeldError) (.ref C_InvalidValue) = some false)
  (x_HeldError_InvalidInteger : PySem.W.subIn K (.ref C_HeldError) (.ref C_InvalidInteger) = some false)
  (x_HeldError_InvalidValues : PySem.W.subIn K (.ref C_HeldError) (.ref C_InvalidValues) = some false)
  (x_InvalidValue_HeldError : PySem.W.subIn K (.ref C_InvalidValue) (.ref C_HeldError) = some true)
  (x_InvalidValue_InvalidValue : PySem.W.subIn K (.ref C_InvalidValue) (.ref C_InvalidValue) = some true)
  (x_InvalidValue_InvalidInteger : PySem.W.subIn K (.ref C_InvalidValue) (.ref C_InvalidInteger) = some false)
  (x_InvalidValue_InvalidValues : PySem.W.subIn K (.ref C_InvalidValue) (.ref C_InvalidValues) = some false)
  (x_InvalidInteger_HeldError : PySem.W.subIn K (.ref C_InvalidInteger) (.ref C_HeldError) = some true)
  (x_InvalidInteger_InvalidValue : PySem.W.subIn K (.ref C_InvalidInteger) (.ref C_InvalidValue) = some false)
  (x_InvalidInteger_InvalidInteger : PySem.W.subIn K (.ref C_InvalidInteger) (.ref C_InvalidInteger) = some true)
  (x_InvalidInteger_InvalidValues : PySem.W.subIn K (.ref C_InvalidInteger) (.ref C_InvalidValues) = some false)
  (x_InvalidValues_HeldError : PySem.W.subIn K (.ref C_InvalidValues) (.ref C_HeldError) = some true)
  (x_InvalidValues_InvalidValue : PySem.W.subIn K (.ref C_InvalidValues) (.ref C_InvalidValue) = some false)
  (x_InvalidValues_InvalidInteger : PySem.W.subIn K (.ref C_InvalidValues) (.ref C_InvalidInteger) = some false)
  (x_InvalidValues_InvalidValues : PySem.W.subIn K (.ref C_InvalidValues) (.ref C_InvalidValues) = some true)
  (y_HeldError : PySem.W.subIn K (.ref C_HeldError) (.type "ValueError") = some true)
  (y_InvalidValue : PySem.W.subIn K (.ref C_InvalidValue) (.type "ValueError") = some true)
  (y_InvalidInteger : PySem.W.subIn K (.ref C_InvalidInteger) (.type "ValueError") = some true)
  (y_InvalidValues : PySem.W.subIn K (.ref C_InvalidValues) (.type "ValueError") = some true)
  (h_t0 : K.lookup 270 = none)
  (h_th : PySem.W.codeHdIn K cR 270 = true)
  : LG.LawAt l w K 10 63 mg fa h := by
  let a : At := { c_HeldError := C_HeldError, c_InvalidValue := C_InvalidValue, c_InvalidInteger := C_InvalidInteger, c_InvalidValues := C_InvalidValues, init := f_init, is_integer := f_is_integer, is_end := f_is_end, is_list := f_is_list, is_value := f_is_value, want_value := f_want_value, want_integer := f_want_integer, is_not_less := f_is_not_less, least_of := f_least_of, greatest_of := f_greatest_of, end_at := f_end_at, integers_in := f_integers_in, is_at_least := f_is_at_least, lesser_of := f_lesser_of, greater_of := f_greater_of, at_level := f_at_level, levels_of := f_levels_of, _law_pot := f__law_pot, _law_draw := f__law_draw, _law_pick := f__law_pick, _law_number := f__law_number, _law_shown := f__law_shown, _law_thing := f__law_thing, _law_things := f__law_things, _law_odd := f__law_odd, _law_extreme := f__law_extreme, _law_told := f__law_told, _law_pairs_right := f__law_pairs_right, _law_levels_right := f__law_levels_right, _law_extremes_right := f__law_extremes_right, _law_eight_right := f__law_eight_right, _law_refused_right := f__law_refused_right, _law_right := f__law_right, law := f_law, t_BOTTOM := t_BOTTOM, t_TOP := t_TOP, t_NO_BOUND := t_NO_BOUND, ENDS := g_ENDS }
  have T : Txt K mg a :=
    { d_is_integer := gfn_of X G h_n_is_integer h_l_is_integer h_c_is_integer h_k_is_integer
      d_is_end := gfn_of X G h_n_is_end h_l_is_end h_c_is_end h_k_is_end
      d_is_list := gfn_of X G h_n_is_list h_l_is_list h_c_is_list h_k_is_list
      d_is_value := gfn_of X G h_n_is_value h_l_is_value h_c_is_value h_k_is_value
      d_want_value := gfn_of X G h_n_want_value h_l_want_value h_c_want_value h_k_want_value
      d_want_integer := gfn_of X G h_n_want_integer h_l_want_integer h_c_want_integer h_k_want_integer
      d_is_not_less := gfn_of X G h_n_is_not_less h_l_is_not_less h_c_is_not_less h_k_is_not_less
      d_least_of := gfn_of X G h_n_least_of h_l_least_of h_c_least_of h_k_least_of
      d_greatest_of := gfn_of X G h_n_greatest_of h_l_greatest_of h_c_greatest_of h_k_greatest_of
      d_end_at := gfn_of X G h_n_end_at h_l_end_at h_c_end_at h_k_end_at
      d_integers_in := gfn_of X G h_n_integers_in h_l_integers_in h_c_integers_in h_k_integers_in
      d_is_at_least := gfn_of X G h_n_is_at_least h_l_is_at_least h_c_is_at_least h_k_is_at_least
      d_lesser_of := gfn_of X G h_n_lesser_of h_l_lesser_of h_c_lesser_of h_k_lesser_of
      d_greater_of := gfn_of X G h_n_greater_of h_l_greater_of h_c_greater_of h_k_greater_of
      d_at_level := gfn_of X G h_n_at_level h_l_at_level h_c_at_level h_k_at_level
      d_levels_of := gfn_of X G h_n_levels_of h_l_levels_of h_c_levels_of h_k_levels_of
      d__law_pot := gfn_of X G h_n__law_pot h_l__law_pot h_c__law_pot h_k__law_pot
      d__law_draw := gfn_of X G h_n__law_draw h_l__law_draw h_c__law_draw h_k__law_draw
      d__law_pick := gfn_of X G h_n__law_pick h_l__law_pick h_c__law_pick h_k__law_pick
      d__law_number := gfn_of X G h_n__law_number h_l__law_number h_c__law_number h_k__law_number
      d__law_shown := gfn_of X G h_n__law_shown h_l__law_shown h_c__law_shown h_k__law_shown
      d__law_thing := gfn_of X G h_n__law_thing h_l__law_thing h_c__law_thing h_k__law_thing
      d__law_things := gfn_of X G h_n__law_things h_l__law_things h_c__law_things h_k__law_things
      d__law_odd := gfn_of X G h_n__law_odd h_l__law_odd h_c__law_odd h_k__law_odd
      d__law_extreme := gfn_of X G h_n__law_extreme h_l__law_extreme h_c__law_extreme h_k__law_extreme
      d__law_told := gfn_of X G h_n__law_told h_l__law_told h_c__law_told h_k__law_told
      d__law_pairs_right := gfn_of X G h_n__law_pairs_right h_l__law_pairs_right h_c__law_pairs_right h_k__law_pairs_right
      d__law_levels_right := gfn_of X G h_n__law_levels_right h_l__law_levels_right h_c__law_levels_right h_k__law_levels_right
      d__law_extremes_right := gfn_of X G h_n__law_extremes_right h_l__law_extremes_right h_c__law_extremes_right h_k__law_extremes_right
      d__law_eight_right := gfn_of X G h_n__law_eight_right h_l__law_eight_right h_c__law_eight_right h_k__law_eight_right
      d__law_refused_right := gfn_of X G h_n__law_refused_right h_l__law_refused_right h_c__law_refused_right h_k__law_refused_right
      d__law_right := gfn_of X G h_n__law_right h_l__law_right h_c__law_right h_k__law_right
      d_law := gfn_of X G h_n_law h_l_law h_c_law h_k_law
      z_ValueError := PySem.W.mg_none_of X G h_z_ValueError
      z_abs := PySem.W.mg_none_of X G h_z_abs
      z_all := PySem.W.mg_none_of X G h_z_all
      z_bool := PySem.W.mg_none_of X G h_z_bool
      z_divmod := PySem.W.mg_none_of X G h_z_divmod
      z_int := PySem.W.mg_none_of X G h_z_int
      z_isinstance := PySem.W.mg_none_of X G h_z_isinstance
      z_len := PySem.W.mg_none_of X G h_z_len
      z_list := PySem.W.mg_none_of X G h_z_list
      z_max := PySem.W.mg_none_of X G h_z_max
      z_min := PySem.W.mg_none_of X G h_z_min
      z_range := PySem.W.mg_none_of X G h_z_range
      z_repr := PySem.W.mg_none_of X G h_z_repr
      z_set := PySem.W.mg_none_of X G h_z_set
      z_sorted := PySem.W.mg_none_of X G h_z_sorted
      z_str := PySem.W.mg_none_of X G h_z_str
      z_tuple := PySem.W.mg_none_of X G h_z_tuple
      v_BOTTOM := PySem.W.mg_of X G h_v_BOTTOM
      v_TOP := PySem.W.mg_of X G h_v_TOP
      v_NO_BOUND := PySem.W.mg_of X G h_v_NO_BOUND
      v_ENDS := PySem.W.mg_of X G h_v_ENDS
      l_ENDS := ⟨_, [.str "bottom" t_ENDS_0, .str "top" t_ENDS_1], _, _, h_l_ENDS, .cons ⟨_, rfl⟩ (.cons ⟨_, rfl⟩ (.nil))⟩
      e_HeldError := gex_of X G e_n_HeldError e_l_HeldError e_r_HeldError e_sa_HeldError e_e1_HeldError e_e2_HeldError e_e3_HeldError e_i_HeldError e_v_HeldError e_ga_HeldError e_gg_HeldError e_hd_HeldError e_ha_HeldError e_hn e_ht e_hm_HeldError
      e_InvalidValue := gex_of X G e_n_InvalidValue e_l_InvalidValue e_r_InvalidValue e_sa_InvalidValue e_e1_InvalidValue e_e2_InvalidValue e_e3_InvalidValue e_i_InvalidValue e_v_InvalidValue e_ga_InvalidValue e_gg_InvalidValue e_hd_InvalidValue e_ha_InvalidValue e_hn e_ht e_hm_InvalidValue
      e_InvalidInteger := gex_of X G e_n_InvalidInteger e_l_InvalidInteger e_r_InvalidInteger e_sa_InvalidInteger e_e1_InvalidInteger e_e2_InvalidInteger e_e3_InvalidInteger e_i_InvalidInteger e_v_InvalidInteger e_ga_InvalidInteger e_gg_InvalidInteger e_hd_InvalidInteger e_ha_InvalidInteger e_hn e_ht e_hm_InvalidInteger
      e_InvalidValues := gex_of X G e_n_InvalidValues e_l_InvalidValues e_r_InvalidValues e_sa_InvalidValues e_e1_InvalidValues e_e2_InvalidValues e_e3_InvalidValues e_i_InvalidValues e_v_InvalidValues e_ga_InvalidValues e_gg_InvalidValues e_hd_InvalidValues e_ha_InvalidValues e_hn e_ht e_hm_InvalidValues
      ti := h_ti
      di := ⟨_, ⟨_, _, _, _, _, _, _, _, _, _, rfl, h_il, h_ic, .inr ⟨by simp, TD, _, [.none], _, rfl, h_iD, rfl, .cons rfl .nil⟩, .inl rfl⟩, h_ik⟩
      x_HeldError_HeldError := x_HeldError_HeldError
      x_HeldError_InvalidValue := x_HeldError_InvalidValue
      x_HeldError_InvalidInteger := x_HeldError_InvalidInteger
      x_HeldError_InvalidValues := x_HeldError_InvalidValues
      x_InvalidValue_HeldError := x_InvalidValue_HeldError
      x_InvalidValue_InvalidValue := x_InvalidValue_InvalidValue
      x_InvalidValue_InvalidInteger := x_InvalidValue_InvalidInteger
      x_InvalidValue_InvalidValues := x_InvalidValue_InvalidValues
      x_InvalidInteger_HeldError := x_InvalidInteger_HeldError
      x_InvalidInteger_InvalidValue := x_InvalidInteger_InvalidValue
      x_InvalidInteger_InvalidInteger := x_InvalidInteger_InvalidInteger
      x_InvalidInteger_InvalidValues := x_InvalidInteger_InvalidValues
      x_InvalidValues_HeldError := x_InvalidValues_HeldError
      x_InvalidValues_InvalidValue := x_InvalidValues_InvalidValue
      x_InvalidValues_InvalidInteger := x_InvalidValues_InvalidInteger
      x_InvalidValues_InvalidValues := x_InvalidValues_InvalidValues
      y_HeldError := y_HeldError
      y_InvalidValue := y_InvalidValue
      y_InvalidInteger := y_InvalidInteger
      y_InvalidValues := y_InvalidValues }
  have hfa : fa = f_law := by
    have e := hmg.symm.trans T.d_law.m
    cases e
    rfl
  subst hfa
  have hC : codeAt K a._law_refused_right = some (.ref cR) := by
    unfold codeAt
    rw [show K.lookup a._law_refused_right = _ from h_l__law_refused_right]
    rfl
  refine ⟨[(cR, 270)], sp_law K 270, ?_, ?_, ?_, ?_, ?_⟩
  · intro p hp
    cases List.mem_singleton.mp hp
    exact hT
  · intro p hp
    cases List.mem_singleton.mp hp
    exact h_t0
  · intro p hp
    cases List.mem_singleton.mp hp
    exact PySem.W.codeHd_of_K X h_th
  · intro H b ns hn _ hH hS
    exact ⟨b, ns, rfl, hS, hn, fun x hx => (List.mem_singleton.mp hx) ▸ LamX.TabS.nil (hH (cR, 270) (List.mem_singleton.mpr rfl)), fun _ => rfl⟩
  · intro base _ _ hTB
    exact ok_law T hC (hTB (cR, 270) (List.mem_singleton.mpr rfl))
end K11
open PySem PySem.W PyProof.Rows
set_option maxHeartbeats 0 in
theorem PySem.Challenge.cw_rankchances_k11_values_levels_and_extrem_holds : PySem.Challenge.rw_rankchances_k11_values_levels_and_extrem.Holds := by
  w_on; o_law; k_head; (case hw => w_witness2)
  k_fill
  refine LG.walk_law (l := PySem.Challenge.rw_rankchances_k11_values_levels_and_extrem) (n := 63) (k := 10) rfl (by decide) rfl ⟨rfl, by decide, by decide⟩ (fun w h Y => PySem.W.km_in_of Y) ?F
  case F =>
    intro w mg fa h Y KX G hmg
    refine' K11.all_facts _ KX G hmg ?hT ?h_n_is_integer ?h_l_is_integer ?h_c_is_integer ?h_k_is_integer ?h_n_is_end ?h_l_is_end ?h_c_is_end ?h_k_is_end ?h_n_is_list ?h_l_is_list ?h_c_is_list ?h_k_is_list ?h_n_is_value ?h_l_is_value ?h_c_is_value ?h_k_is_value ?h_n_want_value ?h_l_want_value ?h_c_want_value ?h_k_want_value ?h_n_want_integer ?h_l_want_integer ?h_c_want_integer ?h_k_want_integer ?h_n_is_not_less ?h_l_is_not_less ?h_c_is_not_less ?h_k_is_not_less ?h_n_least_of ?h_l_least_of ?h_c_least_of ?h_k_least_of ?h_n_greatest_of ?h_l_greatest_of ?h_c_greatest_of ?h_k_greatest_of ?h_n_end_at ?h_l_end_at ?h_c_end_at ?h_k_end_at ?h_n_integers_in ?h_l_integers_in ?h_c_integers_in ?h_k_integers_in ?h_n_is_at_least ?h_l_is_at_least ?h_c_is_at_least ?h_k_is_at_least ?h_n_lesser_of ?h_l_lesser_of ?h_c_lesser_of ?h_k_lesser_of ?h_n_greater_of ?h_l_greater_of ?h_c_greater_of ?h_k_greater_of ?h_n_at_level ?h_l_at_level ?h_c_at_level ?h_k_at_level ?h_n_levels_of ?h_l_levels_of ?h_c_levels_of ?h_k_levels_of ?h_n__law_pot ?h_l__law_pot ?h_c__law_pot ?h_k__law_pot ?h_n__law_draw ?h_l__law_draw ?h_c__law_draw ?h_k__law_draw ?h_n__law_pick ?h_l__law_pick ?h_c__law_pick ?h_k__law_pick ?h_n__law_number ?h_l__law_number ?h_c__law_number ?h_k__law_number ?h_n__law_shown ?h_l__law_shown ?h_c__law_shown ?h_k__law_shown ?h_n__law_thing ?h_l__law_thing ?h_c__law_thing ?h_k__law_thing ?h_n__law_things ?h_l__law_things ?h_c__law_things ?h_k__law_things ?h_n__law_odd ?h_l__law_odd ?h_c__law_odd ?h_k__law_odd ?h_n__law_extreme ?h_l__law_extreme ?h_c__law_extreme ?h_k__law_extreme ?h_n__law_told ?h_l__law_told ?h_c__law_told ?h_k__law_told ?h_n__law_pairs_right ?h_l__law_pairs_right ?h_c__law_pairs_right ?h_k__law_pairs_right ?h_n__law_levels_right ?h_l__law_levels_right ?h_c__law_levels_right ?h_k__law_levels_right ?h_n__law_extremes_right ?h_l__law_extremes_right ?h_c__law_extremes_right ?h_k__law_extremes_right ?h_n__law_eight_right ?h_l__law_eight_right ?h_c__law_eight_right ?h_k__law_eight_right ?h_n__law_refused_right ?h_l__law_refused_right ?h_c__law_refused_right ?h_k__law_refused_right ?h_n__law_right ?h_l__law_right ?h_c__law_right ?h_k__law_right ?h_n_law ?h_l_law ?h_c_law ?h_k_law ?h_z_ValueError ?h_z_abs ?h_z_all ?h_z_bool ?h_z_divmod ?h_z_int ?h_z_isinstance ?h_z_len ?h_z_list ?h_z_max ?h_z_min ?h_z_range ?h_z_repr ?h_z_set ?h_z_sorted ?h_z_str ?h_z_tuple ?h_v_BOTTOM ?h_v_TOP ?h_v_NO_BOUND ?h_v_ENDS ?h_l_ENDS ?e_n_HeldError ?e_l_HeldError ?e_r_HeldError ?e_sa_HeldError ?e_e1_HeldError ?e_e2_HeldError ?e_e3_HeldError ?e_i_HeldError ?e_v_HeldError ?e_ga_HeldError ?e_gg_HeldError ?e_hd_HeldError ?e_ha_HeldError ?e_hm_HeldError ?e_n_InvalidValue ?e_l_InvalidValue ?e_r_InvalidValue ?e_sa_InvalidValue ?e_e1_InvalidValue ?e_e2_InvalidValue ?e_e3_InvalidValue ?e_i_InvalidValue ?e_v_InvalidValue ?e_ga_InvalidValue ?e_gg_InvalidValue ?e_hd_InvalidValue ?e_ha_InvalidValue ?e_hm_InvalidValue ?e_n_InvalidInteger ?e_l_InvalidInteger ?e_r_InvalidInteger ?e_sa_InvalidInteger ?e_e1_InvalidInteger ?e_e2_InvalidInteger ?e_e3_InvalidInteger ?e_i_InvalidInteger ?e_v_InvalidInteger ?e_ga_InvalidInteger ?e_gg_InvalidInteger ?e_hd_InvalidInteger ?e_ha_InvalidInteger ?e_hm_InvalidInteger ?e_n_InvalidValues ?e_l_InvalidValues ?e_r_InvalidValues ?e_sa_InvalidValues ?e_e1_InvalidValues ?e_e2_InvalidValues ?e_e3_InvalidValues ?e_i_InvalidValues ?e_v_InvalidValues ?e_ga_InvalidValues ?e_gg_InvalidValues ?e_hd_InvalidValues ?e_ha_InvalidValues ?e_hm_InvalidValues ?e_hn ?e_ht ?h_ti ?h_il ?h_ic ?h_ik ?h_iD ?x_HeldError_HeldError ?x_HeldError_InvalidValue ?x_HeldError_InvalidInteger ?x_HeldError_InvalidValues ?x_InvalidValue_HeldError ?x_InvalidValue_InvalidValue ?x_InvalidValue_InvalidInteger ?x_InvalidValue_InvalidValues ?x_InvalidInteger_HeldError ?x_InvalidInteger_InvalidValue ?x_InvalidInteger_InvalidInteger ?x_InvalidInteger_InvalidValues ?x_InvalidValues_HeldError ?x_InvalidValues_InvalidValue ?x_InvalidValues_InvalidInteger ?x_InvalidValues_InvalidValues ?y_HeldError ?y_InvalidValue ?y_InvalidInteger ?y_InvalidValues ?h_t0 ?h_th
    (case hT => exact PySem.W.km_tabs_of Y 270 (by decide))
    (case h_n_is_integer => k_is)
    (case h_l_is_integer => k_is)
    (case h_c_is_integer => k_is)
    (case h_k_is_integer => k_is)
    (case h_n_is_end => k_is)
    (case h_l_is_end => k_is)
    (case h_c_is_end => k_is)
    (case h_k_is_end => k_is)
    (case h_n_is_list => k_is)
    (case h_l_is_list => k_is)
    (case h_c_is_list => k_is)
    (case h_k_is_list => k_is)
    (case h_n_is_value => k_is)
    (case h_l_is_value => k_is)
    (case h_c_is_value => k_is)
    (case h_k_is_value => k_is)
    (case h_n_want_value => k_is)
    (case h_l_want_value => k_is)
    (case h_c_want_value => k_is)
    (case h_k_want_value => k_is)
    (case h_n_want_integer => k_is)
    (case h_l_want_integer => k_is)
    (case h_c_want_integer => k_is)
    (case h_k_want_integer => k_is)
    (case h_n_is_not_less => k_is)
    (case h_l_is_not_less => k_is)
    (case h_c_is_not_less => k_is)
    (case h_k_is_not_less => k_is)
    (case h_n_least_of => k_is)
    (case h_l_least_of => k_is)
    (case h_c_least_of => k_is)
    (case h_k_least_of => k_is)
    (case h_n_greatest_of => k_is)
    (case h_l_greatest_of => k_is)
    (case h_c_greatest_of => k_is)
    (case h_k_greatest_of => k_is)
    (case h_n_end_at => k_is)
    (case h_l_end_at => k_is)
    (case h_c_end_at => k_is)
    (case h_k_end_at => k_is)
    (case h_n_integers_in => k_is)
    (case h_l_integers_in => k_is)
    (case h_c_integers_in => k_is)
    (case h_k_integers_in => k_is)
    (case h_n_is_at_least => k_is)
    (case h_l_is_at_least => k_is)
    (case h_c_is_at_least => k_is)
    (case h_k_is_at_least => k_is)
    (case h_n_lesser_of => k_is)
    (case h_l_lesser_of => k_is)
    (case h_c_lesser_of => k_is)
    (case h_k_lesser_of => k_is)
    (case h_n_greater_of => k_is)
    (case h_l_greater_of => k_is)
    (case h_c_greater_of => k_is)
    (case h_k_greater_of => k_is)
    (case h_n_at_level => k_is)
    (case h_l_at_level => k_is)
    (case h_c_at_level => k_is)
    (case h_k_at_level => k_is)
    (case h_n_levels_of => k_is)
    (case h_l_levels_of => k_is)
    (case h_c_levels_of => k_is)
    (case h_k_levels_of => k_is)
    (case h_n__law_pot => k_is)
    (case h_l__law_pot => k_is)
    (case h_c__law_pot => k_is)
    (case h_k__law_pot => k_is)
    (case h_n__law_draw => k_is)
    (case h_l__law_draw => k_is)
    (case h_c__law_draw => k_is)
    (case h_k__law_draw => k_is)
    (case h_n__law_pick => k_is)
    (case h_l__law_pick => k_is)
    (case h_c__law_pick => k_is)
    (case h_k__law_pick => k_is)
    (case h_n__law_number => k_is)
    (case h_l__law_number => k_is)
    (case h_c__law_number => k_is)
    (case h_k__law_number => k_is)
    (case h_n__law_shown => k_is)
    (case h_l__law_shown => k_is)
    (case h_c__law_shown => k_is)
    (case h_k__law_shown => k_is)
    (case h_n__law_thing => k_is)
    (case h_l__law_thing => k_is)
    (case h_c__law_thing => k_is)
    (case h_k__law_thing => k_is)
    (case h_n__law_things => k_is)
    (case h_l__law_things => k_is)
    (case h_c__law_things => k_is)
    (case h_k__law_things => k_is)
    (case h_n__law_odd => k_is)
    (case h_l__law_odd => k_is)
    (case h_c__law_odd => k_is)
    (case h_k__law_odd => k_is)
    (case h_n__law_extreme => k_is)
    (case h_l__law_extreme => k_is)
    (case h_c__law_extreme => k_is)
    (case h_k__law_extreme => k_is)
    (case h_n__law_told => k_is)
    (case h_l__law_told => k_is)
    (case h_c__law_told => k_is)
    (case h_k__law_told => k_is)
    (case h_n__law_pairs_right => k_is)
    (case h_l__law_pairs_right => k_is)
    (case h_c__law_pairs_right => k_is)
    (case h_k__law_pairs_right => k_is)
    (case h_n__law_levels_right => k_is)
    (case h_l__law_levels_right => k_is)
    (case h_c__law_levels_right => k_is)
    (case h_k__law_levels_right => k_is)
    (case h_n__law_extremes_right => k_is)
    (case h_l__law_extremes_right => k_is)
    (case h_c__law_extremes_right => k_is)
    (case h_k__law_extremes_right => k_is)
    (case h_n__law_eight_right => k_is)
    (case h_l__law_eight_right => k_is)
    (case h_c__law_eight_right => k_is)
    (case h_k__law_eight_right => k_is)
    (case h_n__law_refused_right => k_is)
    (case h_l__law_refused_right => k_is)
    (case h_c__law_refused_right => k_is)
    (case h_k__law_refused_right => k_is)
    (case h_n__law_right => k_is)
    (case h_l__law_right => k_is)
    (case h_c__law_right => k_is)
    (case h_k__law_right => k_is)
    (case h_n_law => k_is)
    (case h_l_law => k_is)
    (case h_c_law => k_is)
    (case h_k_law => k_is)
    (case h_z_ValueError => k_is)
    (case h_z_abs => k_is)
    (case h_z_all => k_is)
    (case h_z_bool => k_is)
    (case h_z_divmod => k_is)
    (case h_z_int => k_is)
    (case h_z_isinstance => k_is)
    (case h_z_len => k_is)
    (case h_z_list => k_is)
    (case h_z_max => k_is)
    (case h_z_min => k_is)
    (case h_z_range => k_is)
    (case h_z_repr => k_is)
    (case h_z_set => k_is)
    (case h_z_sorted => k_is)
    (case h_z_str => k_is)
    (case h_z_tuple => k_is)
    (case h_v_BOTTOM => k_is)
    (case h_v_TOP => k_is)
    (case h_v_NO_BOUND => k_is)
    (case h_v_ENDS => k_is)
    (case h_l_ENDS => k_is)
    (case e_n_HeldError => k_is)
    (case e_l_HeldError => k_is)
    (case e_r_HeldError => kernel_rfl)
    (case e_sa_HeldError => k_is)
    (case e_e1_HeldError => k_is)
    (case e_e2_HeldError => k_is)
    (case e_e3_HeldError => k_is)
    (case e_i_HeldError => k_is)
    (case e_v_HeldError => k_is)
    (case e_ga_HeldError => k_is)
    (case e_gg_HeldError => k_is)
    (case e_hd_HeldError => k_is)
    (case e_ha_HeldError => k_is)
    (case e_hm_HeldError => k_is)
    (case e_n_InvalidValue => k_is)
    (case e_l_InvalidValue => k_is)
    (case e_r_InvalidValue => kernel_rfl)
    (case e_sa_InvalidValue => k_is)
    (case e_e1_InvalidValue => k_is)
    (case e_e2_InvalidValue => k_is)
    (case e_e3_InvalidValue => k_is)
    (case e_i_InvalidValue => k_is)
    (case e_v_InvalidValue => k_is)
    (case e_ga_InvalidValue => k_is)
    (case e_gg_InvalidValue => k_is)
    (case e_hd_InvalidValue => k_is)
    (case e_ha_InvalidValue => k_is)
    (case e_hm_InvalidValue => k_is)
    (case e_n_InvalidInteger => k_is)
    (case e_l_InvalidInteger => k_is)
    (case e_r_InvalidInteger => kernel_rfl)
    (case e_sa_InvalidInteger => k_is)
    (case e_e1_InvalidInteger => k_is)
    (case e_e2_InvalidInteger => k_is)
    (case e_e3_InvalidInteger => k_is)
    (case e_i_InvalidInteger => k_is)
    (case e_v_InvalidInteger => k_is)
    (case e_ga_InvalidInteger => k_is)
    (case e_gg_InvalidInteger => k_is)
    (case e_hd_InvalidInteger => k_is)
    (case e_ha_InvalidInteger => k_is)
    (case e_hm_InvalidInteger => k_is)
    (case e_n_InvalidValues => k_is)
    (case e_l_InvalidValues => k_is)
    (case e_r_InvalidValues => kernel_rfl)
    (case e_sa_InvalidValues => k_is)
    (case e_e1_InvalidValues => k_is)
    (case e_e2_InvalidValues => k_is)
    (case e_e3_InvalidValues => k_is)
    (case e_i_InvalidValues => k_is)
    (case e_v_InvalidValues => k_is)
    (case e_ga_InvalidValues => k_is)
    (case e_gg_InvalidValues => k_is)
    (case e_hd_InvalidValues => k_is)
    (case e_ha_InvalidValues => k_is)
    (case e_hm_InvalidValues => k_is)
    (case e_hn => k_is)
    (case e_ht => k_is)
    (case h_ti => k_is)
    (case h_il => k_is)
    (case h_ic => k_is)
    (case h_ik => k_is)
    (case h_iD => k_is)
    (case x_HeldError_HeldError => k_is)
    (case x_HeldError_InvalidValue => k_is)
    (case x_HeldError_InvalidInteger => k_is)
    (case x_HeldError_InvalidValues => k_is)
    (case x_InvalidValue_HeldError => k_is)
    (case x_InvalidValue_InvalidValue => k_is)
    (case x_InvalidValue_InvalidInteger => k_is)
    (case x_InvalidValue_InvalidValues => k_is)
    (case x_InvalidInteger_HeldError => k_is)
    (case x_InvalidInteger_InvalidValue => k_is)
    (case x_InvalidInteger_InvalidInteger => k_is)
    (case x_InvalidInteger_InvalidValues => k_is)
    (case x_InvalidValues_HeldError => k_is)
    (case x_InvalidValues_InvalidValue => k_is)
    (case x_InvalidValues_InvalidInteger => k_is)
    (case x_InvalidValues_InvalidValues => k_is)
    (case y_HeldError => k_is)
    (case y_InvalidValue => k_is)
    (case y_InvalidInteger => k_is)
    (case y_InvalidValues => k_is)
    (case h_t0 => kernel_rfl)
    (case h_th => kernel_rfl)
