import PyProof.Rows.All
import Wide.All
import OpenK.AllK
import Wide.FinOn
import HandS.ForMost
import HandS.IsInst
import HandS.TupAny
import HandS.Deep
import HandS.DictComp
import HandS.Conv
import HandS.Lambda
import HandS.EndTab
import HandS.HeadWalk
import HandS.HeadHook4
import HandS.Defaults
import HandS.Head0
import HandS.Head1
import HandS.Head2
import HandS.Evl
import KE.SortData
import KE.SortKeyHeap
import PyProof.ReprRoads
import PyProof.P3In
import PySem.Challenge.RW_openrules_k21_whole_more_rules_more_fact
set_option Elab.async false
set_option linter.all false
set_option maxRecDepth 100000
set_option maxHeartbeats 4000000
/-! R1: the calls of defs where no repr is under way (guards known), and the rules that the layer lacks. -/
namespace Orl
open PySem PySem.Spec PyProof.Rows L2

/-! ### promises without an exception -/
abbrev Pr := List V → Hp → VK → Prop

/-- the def at f keeps the promise sp, called where no repr runs -/
structure FnG (P : Program) (w : World) (K : PySem.W.Frag) (mg : Str → Option Value) (base : Heap) (k : Nat) (f : Addr) (n : Nat) (sp : Pr) : Prop where
  len : ∀ vs H Q, sp vs H Q → vs.length = n
  run : ∀ (A : Around) (outer : List Env) (s : Shared) (H : Hp) (us : List Value) (vs : List V) (Q : VK), Room k A → A.guards = some [] → Env0 P w K mg base A outer s H → Vals vs us → sp vs H Q →
    codeAny (model P w) A (.call (.ref f) ⟨us, []⟩) (fun r s' => ∃ u, r = .ok (.ret u) ∧ CE outer P w H s Q u s') s

theorem FnG.mono {P : Program} {w : World} {K : PySem.W.Frag} {mg : Str → Option Value} {base : Heap} {j k : Nat} {f : Addr} {n : Nat} {sp : Pr} (F : FnG P w K mg base j f n sp) (h : j ≤ k) : FnG P w K mg base k f n sp :=
  ⟨F.len, fun A outer s H us vs Q hr => F.run A outer s H us vs Q (hr.mono h)⟩
theorem FnG.imp {P : Program} {w : World} {K : PySem.W.Frag} {mg : Str → Option Value} {base : Heap} {k : Nat} {f : Addr} {n : Nat} {sp sp' : Pr} (F : FnG P w K mg base k f n sp) (h : ∀ vs H Q, sp' vs H Q → sp vs H Q) : FnG P w K mg base k f n sp' :=
  ⟨fun vs H Q q => F.len vs H Q (h _ _ _ q), fun A outer s H us vs Q hr hG e0 hv q => F.run A outer s H us vs Q hr hG e0 hv (h _ _ _ q)⟩

/-- a name of the module that stands for such a def -/
structure Has (P : Program) (w : World) (K : PySem.W.Frag) (mg : Str → Option Value) (base : Heap) (k : Nat) (x : Str) (n : Nat) (sp : Pr) : Prop where
  ex : ∃ f, FnG P w K mg base k f n sp ∧ mg x = some (.ref f) ∧ PySem.W.keepIn K (.ref f) = true

def tOwn (sp : Pr) (t : TA) : TE := fun σ H Q => t σ H fun vs H1 => sp vs H1 Q

section
variable {X : Cx}
theorem pe_own {k : Nat} {x : Str} {n : Nat} {sp : Pr} {p pos : Pos} {e : Expr} {es : List Expr} {t : TA} (G : Has X.prog X.w X.K X.mg X.base k x n sp) (hr : Room k X.A) (hG : X.A.guards = some []) (hg : Gl X x) (ha : PA X (e :: es) t)
    (hdb : (x == ("__debug__" : Str)) = false := by decide) (he : starEach (e :: es) X.env = (false, eval e X.env) :: starEach es X.env := by rfl) (hpl : (backTo pos (starEach es X.env)).any (·.1) = false := by rfl) :
    PE X (.Call (.Name x p) (e :: es) [] pos) (tOwn sp t) := by
  obtain ⟨f, F, hm, hk⟩ := G.ex
  constructor
  intro pins s σ H Q I h
  apply wpAny_Call_Name_kw
  apply ld_glob I hg hm _ hdb
  refine PySem.W.callWith_K (h₀ := X.base) I.ok.mod.kin hk ?_ he hpl
  refine thn (ha.run pos pins s σ H _ I h) ?_
  rintro us s1 ⟨vs, H1, I1, r, q⟩
  refine ⟨I1.kIn, wpAny_call (codeAny_mono (F.run X.A X.stack s1 H1 us vs Q hr hG I1.env0 r q) ?_)⟩
  rintro _ s2 ⟨u, rfl, c⟩
  exact I1.after c
end

section
variable {P : Program} {w : World} {K : PySem.W.Frag} {mg : Str → Option Value} {base : Heap} {k : Nat} {f : Addr} {N ps : List Str} {sp : Pr}
/-- a def by its body -/
theorem fnG_of {x qual : Str} {params : Arguments} {body : List Stmt} {scope : Scope} {kV doc pm cdv ct oc : Value} {an od : Option Addr} {osl : Array (Option Value)}
    (lk : K.lookup f = some ⟨oc, od, .func (PySem.W.fnOf x qual params body scope .none kV doc pm an cdv ct), osl⟩) (hcd : PySem.W.codeIn K cdv qual = true) (S : FnScope N ps scope)
    (hb : ∀ us : List Value, us.length = ps.length → bindArgs (PySem.W.fnOf x qual params body scope .none kV doc pm an cdv ct) ⟨us, []⟩ = pure (ps.zip us))
    (len : ∀ vs H Q, sp vs H Q → vs.length = ps.length)
    (go : ∀ (A : Around) (outer : List Env) (s : Shared) (H : Hp) (vs : List V) (Q : VK), Room k (A.deeper (envOfC qual scope s.heap.objs.size f cdv)) → (A.deeper (envOfC qual scope s.heap.objs.size f cdv)).guards = some [] → sp vs H Q →
      ∃ t, PSs (cxOf CX0 P w K mg base N qual scope f cdv A outer s H E0).nox body t ∧ t { nx := fun _ H' => Q .non H', rt := Q } (start N vs) H) : FnG P w K mg base (k + 1) f ps.length sp := by
  refine ⟨len, ?_⟩
  intro A outer s H us vs Q hr hG e0 hv hs
  have l1 : vs.length = ps.length := len _ _ _ hs
  have l2 : us.length = ps.length := by rw [← hv.length]; exact l1
  have all : ∀ b o, base.get? b = some o → s.heap.get? b = some o := fun b o e => (e0.bs b o e).1
  have kx : K.In s.heap := e0.mod.kin.keeps all
  obtain ⟨t, ht, hq⟩ := go A outer s H vs Q (hr.deeper _) hG hs
  have kinds : ∀ z ∈ ps.zip us, scope.names.lookup z.1 = some .local ∨ (scope.names.lookup z.1 = some .cell ∧ ((cellsFrom (s.heap.objs.size + 1) scope.names []).lookup z.1).isSome = true) := by
    rintro ⟨n, v⟩ hz
    cases S.par n (List.of_mem_zip hz).1 with
    | inl q => exact .inl q
    | inr q => exact .inr ⟨q, PySem.W.cellsFrom_some _ _ _ (.inl q)⟩
  refine codeAny_call_cells (binds := ps.zip us) hr.depth (kx _ _ lk) rfl (e0.mod.nolimit.keeps all) (PySem.W.codeRec_of kx hcd) rfl (hb us l2) rfl kinds ?_ S.co S.gen S.kind
  intro s1 hx
  have I0 : Inv (cxOf CX0 P w K mg base N qual scope f cdv A outer s H E0) [] (start N vs) H s1 := inv_start S hr.hd e0 l1 hv hx
  refine wpAny_mono (ht.run [] s1 (start N vs) H _ (I0.wish _) hq) ?_ (fun _ _ z => False.elim z)
  intro fl s' r
  have fin : ∀ {σ' : L2.St} {H' : Hp} {v : V} {u : Value}, Inv (cxOf CX0 P w K mg base N qual scope f cdv A outer s H E0).nox [] σ' H' s' → RelV v u → Q v H' → CE outer P w H s Q u s' :=
    fun J rv q => ⟨_, _, J.os, J.bare, J.base, J.hok, rv, q⟩
  cases fl with
  | ret u =>
    obtain ⟨v, _, _, J, rv, q⟩ := r
    exact ⟨u, rfl, fin J rv q⟩
  | next =>
    obtain ⟨_, _, J, q⟩ := r
    exact ⟨.none, rfl, fin (v := V.non) J rfl q⟩
  | brk =>
    obtain ⟨_, _, _, q⟩ := r
    exact q.elim
  | cont =>
    obtain ⟨_, _, _, q⟩ := r
    exact q.elim

/-- a def of the text as the head tells it -/
abbrev FnP (K : PySem.W.Frag) (x : Str) (st : Stmt) (f : Addr) : Prop := ∃ fd, FunD K x x (defArgs st) (defBody st) (defScope st) [] [] f fd

theorem FnP.ok {x : Str} {st : Stmt} (F : FnP K x st f) (S : FnScope N ps (defScope st))
    (hb : ∀ (kV doc pm : Value) (an : Option Addr) (cdv ct : Value) (us : List Value), us.length = ps.length → bindArgs (PySem.W.fnOf x x (defArgs st) (defBody st) (defScope st) .none kV doc pm an cdv ct) ⟨us, []⟩ = pure (ps.zip us))
    (len : ∀ vs H Q, sp vs H Q → vs.length = ps.length)
    (go : ∀ (cdv : Value) (A : Around) (outer : List Env) (s : Shared) (H : Hp) (vs : List V) (Q : VK), Room k (A.deeper (envOfC x (defScope st) s.heap.objs.size f cdv)) → (A.deeper (envOfC x (defScope st) s.heap.objs.size f cdv)).guards = some [] → sp vs H Q →
      ∃ t, PSs (cxOf CX0 P w K mg base N x (defScope st) f cdv A outer s H E0).nox (defBody st) t ∧ t { nx := fun _ H' => Q .non H', rt := Q } (start N vs) H) : FnG P w K mg base (k + 1) f ps.length sp := by
  obtain ⟨fd, F⟩ := F
  obtain ⟨oc, od, dV, kV, doc, pm, an, cdv, ct, osl, rfl, lk, hcd, hD, _⟩ := F.ex
  have e : dV = .none := by
    rcases hD with ⟨_, e⟩ | ⟨e, _⟩
    · exact e
    · exact absurd rfl e
  subst e
  exact fnG_of lk hcd S (hb kV doc pm an cdv ct) len (go cdv)
end

/-! ### rules that the layer lacks -/
section
variable {X : Cx}
/-- repr(x) of data without dicts, x an object -/
def rRepr (K : PySem.W.Frag) : List V → Hp → VK → Prop := fun xs H Q => ∃ (a : Addr) (d : PyData), xs = [V.ref a] ∧ Dp K H (V.ref a) d ∧ d.showable = true ∧ d.hasDict = false ∧ d.depth ≤ 64 ∧ d.shown.length ≤ sizeLine ∧ Q (.str d.shown) H
theorem call_repr (hG : X.A.guards = some []) (hu : X.A.units + 70 < cLine) : CallR X (.builtin "repr") (rRepr X.K) := by
  intro pins s σ H xs us Q I r h
  obtain ⟨a, d, rfl, hd, h1, h2, h3, h4, q⟩ := h
  obtain rfl := Vals.ref1 r
  obtain ⟨as, hr⟩ := Dp.reads I d _ _ hd (show RelV (V.ref a) (Value.ref a) from rfl)
  exact repr_of_reads' hr h1 (PyData.noDict_hsm h2) hG (by omega) (fun _ _ e => e) (fun h' u tk hk => ⟨.str d.shown, H, I.kept (t' := tk) hk, ⟨_, rfl⟩, q⟩) h4

/-- x not in t, t a tuple, data of any depth -/
def rNotInT (K : PySem.W.Frag) : R2 := fun x y H Q => ∃ d ds, Dp K H x d ∧ Dp K H y (.tuple ds) ∧ SeqAt.shaped d = true ∧ PyData.canLayAll0 ds = true ∧ Q (.bl (!ds.any fun z => PyData.eqv z d)) H
theorem op_notInT (hu : X.A.units + 65 < cLine) : OpR X (compareOp .NotIn) (rNotInT X.K) := by
  intro pins s σ H x y v u Q I rx ry h
  obtain ⟨d, ds, hd, he, sd, se, q⟩ := h
  obtain ⟨as, r1⟩ := Dp.reads I d x v hd rx
  obtain ⟨bs, r2⟩ := Dp.reads I (.tuple ds) y u he ry
  exact SeqAt.notIn_tuple_reads r2 r1 se (SeqAt.canLay_of_shaped sd) (room_in_shaped sd hu) ⟨.bl _, H, I, rfl, q⟩
/-- .. t a list -/
def rNotInL (K : PySem.W.Frag) : R2 := fun x y H Q => ∃ d ds, Dp K H x d ∧ Dp K H y (.list ds) ∧ SeqAt.shaped d = true ∧ PyData.canLayAll0 ds = true ∧ Q (.bl (!ds.any fun z => PyData.eqv z d)) H
theorem op_notInL (hu : X.A.units + 65 < cLine) : OpR X (compareOp .NotIn) (rNotInL X.K) := by
  intro pins s σ H x y v u Q I rx ry h
  obtain ⟨d, ds, hd, he, sd, se, q⟩ := h
  obtain ⟨as, r1⟩ := Dp.reads I d x v hd rx
  obtain ⟨bs, r2⟩ := Dp.reads I (.list ds) y u he ry
  exact SeqAt.notIn_list_reads r2 r1 se (SeqAt.canLay_of_shaped sd) (room_in_shaped sd hu) ⟨.bl _, H, I, rfl, q⟩

/-- a list or a tuple is walked -/
def iSeq (K : PySem.W.Frag) (tl : TE) : TI := fun σ H R => iList K tl σ H R ∨ iTup K tl σ H R
theorem pi_seq {tg l : Expr} {tl : TE} (hl : PE X l tl) : PI X tg l (iSeq X.K tl) := ⟨fun pins s σ H R I h => h.elim (fun z => (pi_list hl).run pins s σ H R I z) fun z => (pi_tup hl).run pins s σ H R I z⟩

theorem paired_each {R : V → PyData → Prop} {S : Value → PyData → Prop} : ∀ {vs : List V} {us : List Value} {ds : List PyData}, Vals vs us → Paired R vs ds → (∀ v u d, RelV v u → R v d → S u d) → PySem.W.EachIs S us ds
  | _, _, _, .nil, .nil, _ => .nil
  | _, _, _, .cons r t, .cons q z, f => .cons (f _ _ _ r q) (paired_each t z f)
theorem each_paired {S : Value → PyData → Prop} {R : V → PyData → Prop} : ∀ {us : List Value} {ds : List PyData}, PySem.W.EachIs S us ds → (∀ u d, S u d → ∃ v, RelV v u ∧ R v d) → ∃ vs, Vals vs us ∧ Paired R vs ds
  | _, _, .nil, _ => ⟨[], .nil, .nil⟩
  | _, _, .cons q t, f => by
    obtain ⟨v, r, z⟩ := f _ _ q
    obtain ⟨vs, rs, zs⟩ := each_paired t f
    exact ⟨v :: vs, .cons r rs, .cons z zs⟩

/-- sorted(xs), xs a list of data that can be compared place by place -/
def rSortedD (K : PySem.W.Frag) : List V → Hp → VK → Prop := fun xs H Q => ∃ (a : Addr) (vs : List V) (ds : List PyData), xs = [V.ref a] ∧ SqL K H a vs ∧ Paired (Dp K H) vs ds ∧ PySem.W.AllAlike ds ∧ PySem.W.Sortable ds ∧ (∀ d ∈ ds, d.depth ≤ 64) ∧
  ∀ (ws : List V) (p : Addr), Paired (Dp K H) ws (ds.mergeSort (PySem.W.dataLe false id)) → H p = none → Q (.ref p) (upd H p (.lst ws))
theorem call_sortedD (hu : X.A.units + 70 < cLine) : CallR X (.builtin "sorted") (rSortedD X.K) := by
  intro pins s σ H xs us Q I r h
  obtain ⟨a, vs, ds, rfl, hs, hp, hal, hso, hdp, q⟩ := h
  obtain rfl := Vals.ref1 r
  obtain ⟨its, rv, hl, hz⟩ := I.list hs
  have e1 : PySem.W.EachIs (fun u d => ∃ v, RelV v u ∧ Dp X.K H v d) its ds := paired_each rv hp fun v u d r q => ⟨v, r, q⟩
  have e2 : PySem.W.EachIs (fun u d => ∃ as, Reads s.heap u d as) its ds := paired_each rv hp fun v u d r q => Dp.reads I d v u q r
  have ei : ds.map id = ds := List.map_id ds
  refine PySem.W.sorted_data (enc := id) hl.isList e1 e2 (by rw [ei]; exact hal) (by rw [ei]; exact hso) (by rw [← hp.length]; exact hz) (fun d hd => by have := hdp d hd; show X.A.units + 2 + d.depth < cLine; omega) ?_
  intro out ho eo
  obtain ⟨ws, rw', zw⟩ := each_paired eo fun u d z => z
  obtain ⟨ep, he'⟩ := PyProof.Rows.sortedAll_at s.heap its (List.toArray out)
  have hlen : ws.length ≤ sizeLine := by rw [rw'.length, ho, ← hp.length]; exact hz
  exact ⟨.ref _, upd H (s.heap.objs.size + 1) (.lst ws), I.laid (t' := s.toks) (fun _ _ => PyProof.Rows.sortedAll_old) (Nat.le_succ _) ⟨hlen, out, ep, rw', he'⟩, rfl, q _ _ zw (I.hok.fresh (Nat.le_succ _))⟩
end
end Orl
set_option Elab.async false
set_option linter.all false
set_option maxRecDepth 100000
set_option maxHeartbeats 4000000
/-! R2: sorted(e, key=lambda x: x[0]) over tuples that begin with a text. -/
namespace Orl
open PySem PySem.Spec PyProof.Rows L2 LamX

/-- the lambda's body: x[0] -/
def firstOf (x : Str) (p1 p2 pos : Pos) (kd : Nat) : Expr := .Subscript (.Name x p1) (.Constant (.int 0) kd p2) pos

section
variable {prog : Program} {w : World} {A : Around} {s : Shared}
theorem lam_first {x qual : Str} {p1 p2 pos : Pos} {kd : Nat} {params : Arguments} {scope : Scope} {cl : List (Str × Addr)} {pm ctv : Value} {c' f r : Addr} {its : List Value} {nm : Str} {t : Tok}
    (hf : s.heap.get? f = some (PySem.W.kla_obj "<lambda>" qual params (firstOf x p1 p2 pos kd) scope cl pm c' ctv)) (hcd : s.heap.CodeRec (.ref c') qual) (hlim : s.heap.NoLimit) (hd : A.depth < recursionLimit)
    (hbind : ∀ v : Value, bindArgs (PySem.W.kla_fn "<lambda>" qual params (firstOf x p1 p2 pos kd) scope cl pm (.ref c') ctv) ⟨[v], []⟩ = pure [(x, v)]) (hx : scope.names.lookup x = some .local) (hdb : (x == ("__debug__" : Str)) = false)
    (hco : scope.isCoroutine = false) (hgen : scope.isGenerator = false) (hk : scope.kind = .function) (hcell : ∀ y ∈ scope.names, y.2 ≠ .cell)
    (hr : IsTup s.heap r its.toArray) (h0 : its[0]? = some (.str nm t)) :
    wpAny (model prog w) A (call (.ref f) [.ref r]) (PySem.W.KeyPure (.str nm) s) (fun _ _ => False) s := by
  refine wpAny_call (PySem.W.kla_callFunE hd hf rfl hco hgen rfl hcd ?_)
  rw [hbind]
  refine wpAny_pure (wpAny_newFunctionEnv hcell (fun y hy => ?_) (fun h1 hns hsb => ?_) hk)
  · have e : y = (x, Value.ref r) := by simpa using hy
    rw [e]
    exact hx
  have keep : ∀ b o, s.heap.get? b = some o → h1.get? b = some o := fun b o e => hsb.extBut b o (Nat.ne_of_lt (Heap.lt_size e)) (Heap.get?_push_of_some _ e)
  refine ⟨hlim.fresh _ hsb, ?_⟩
  refine PySem.W.kla_codeExpr ?_
  refine Subscript_ ?_
  refine wpAny_Name (wpAny_loadName_local (v := .ref r) hk hx hns ?_ ?_) hdb
  · simp [List.lookup]
  refine wpAny_Constant_int ?_
  obtain ⟨ob, ho, hc, n, hd'⟩ := hr
  have hr1 : IsTup h1 r its.toArray := ⟨ob, keep _ _ ho, hc, n, hd'⟩
  have hlen : 0 < its.length := (List.getElem?_eq_some_iff.mp h0).1
  refine subscriptTail_builtinR (x := Value.str nm t) (s := { s with heap := h1, toks := _ }) hr1.typeIs slot_tuple_getitem.lookup ?_ ?_
  · refine getItem_tuple (j := 0) hr1 (by decide) (by decide) ?_ ?_ ⟨rfl, h1, _, rfl, keep, .str _ _⟩
    · rw [List.size_toArray]
      exact seqIndex_of (by decide) (by exact_mod_cast hlen)
    · simpa using h0
  · rfl
end

theorem extN_rd {H H' : Hp} (e : ExtN H H') {a : Addr} {u : HO} (nt : ∀ ps, u ≠ .tbl ps) (h : Rd H a u) : Rd H' a u := by
  rcases h with h | ⟨o, h⟩
  · exact .inl (e _ _ h nt)
  · exact .inr ⟨o, e _ _ h (fun ps z => by cases z)⟩
theorem extN_l {K : PySem.W.Frag} {H H' : Hp} (e : ExtN H H') {a : Addr} {xs : List V} (h : SqL K H a xs) : SqL K H' a xs := h.imp (extN_rd e (fun ps z => by cases z)) id
theorem extN_t {K : PySem.W.Frag} {H H' : Hp} (e : ExtN H H') {a : Addr} {xs : List V} (h : SqT K H a xs) : SqT K H' a xs := h.imp (extN_rd e (fun ps z => by cases z)) id

/-- a tuple that begins with the text nm -/
def Begins (K : PySem.W.Frag) (H : Hp) (v : V) (nm : Str) : Prop := ∃ r ws, v = V.ref r ∧ SqT K H r (V.str nm :: ws)
/-- sorted(e, key=lambda x: x[0]): some arrangement -/
def tSortLam (K : PySem.W.Frag) (T : List (Addr × Str)) (ta : TA) : TE := fun σ H Q => ta σ H fun vs0 H1 => ∃ (a : Addr) (vs : List V) (nms : List Str), vs0 = [V.ref a] ∧ SqL K H1 a vs ∧ Tabs T H1 ∧ Paired (Begins K H1) vs nms ∧
  ∀ (ws : List V) (H2 : Hp) (p : Addr), ws.Perm vs → ExtN H1 H2 → Tabs T H2 → H2 p = none → Q (.ref p) (upd H2 p (.lst ws))

theorem each_zip {R : Value → V × Str → Prop} {S : V → Str → Prop} : ∀ {vs : List V} {us : List Value} {ns : List Str}, Vals vs us → Paired S vs ns → (∀ v u n, RelV v u → S v n → R u (v, n)) → PySem.W.EachIs R us (vs.zip ns)
  | _, _, _, .nil, .nil, _ => .nil
  | _, _, _, .cons r t, .cons q z, f => .cons (f _ _ _ r q) (each_zip t z f)
theorem vals_fst {R : Value → V × Str → Prop} (f : ∀ u b, R u b → RelV b.1 u) : ∀ {us : List Value} {bs : List (V × Str)}, PySem.W.EachIs R us bs → Vals (bs.map (·.1)) us
  | _, _, .nil => .nil
  | _, _, .cons q t => .cons (f _ _ q) (vals_fst f t)

section
variable {X : Cx}
theorem pe_sortLam {c P : Addr} {T : List (Addr × Str)} {y : Str} {e : Expr} {ta : TA} {params : Arguments} {scope : Scope} {p p1 p2 pos lpos kpos cpos : Pos} {kd : Nat} {k : Nat} (hr : Room k X.A) (TB : TabB X.base X.mg c P) (hcode : X.env.code = .ref c)
    (hm : (P, X.env.qual ++ "<lambda>") ∈ T) (hu : ∀ p ∈ T, p.1 = P → p.2 = X.env.qual ++ "<lambda>") (he : PA X [e] ta) (hg : Gl X "sorted") (hms : X.mg "sorted" = none)
    (hdef : defaultsOf params X.env = ([], [])) (hcell : ∀ z ∈ scope.names, z.2 ≠ .cell ∧ z.2 ≠ .free) (hy : scope.names.lookup y = some .local) (hdb : (y == ("__debug__" : Str)) = false) (hco : scope.isCoroutine = false) (hgen : scope.isGenerator = false) (hk : scope.kind = .function)
    (hbind : ∀ (qual : Str) (cl : List (Str × Addr)) (pm cdv ctv v : Value), bindArgs (PySem.W.kla_fn "<lambda>" qual params (firstOf y p1 p2 pos kd) scope cl pm cdv ctv) ⟨[v], []⟩ = pure [(y, v)])
    (h1 : backTo cpos (starEach [e] X.env) = (false, eval e X.env) :: backTo cpos (starEach [] X.env) := by rfl) (h2 : (backTo cpos (starEach [e] X.env)).any (·.1) = false := by rfl) :
    PE X (.Call (.Name "sorted" p) [e] [⟨some "key", .Lambda params (firstOf y p1 p2 pos kd) scope lpos, kpos⟩] cpos) (tSortLam X.K T ta) := by
  refine ⟨fun pins s σ H Q I h => ?_⟩
  refine wpAny_Call_Name_kw (ld_blt (u := .builtin "sorted") I hg hms (by decide +kernel) ?_)
  refine PyProof.Rows.callWith_kw (thn (he.run cpos pins s σ H _ I h) ?_) h1 h2
  rintro us s1 ⟨vs0, H1, I1, r1, a, vs, nms, rfl, hS, hT, hB, q⟩
  refine (?_ : wpAny _ _ (evalAll [do let v ← eval (Expr.Lambda params (firstOf y p1 p2 pos kd) scope lpos) X.env; standAt cpos; pure v]) _ _ s1)
  obtain rfl := Vals.ref1 r1
  refine wpAny_evalAll_cons (wpAny_bind (lam_make2 I1 TB hcode hm hu hT hdef (fun z hz hf => absurd hf (hcell z hz).2) fun f c' pm ctv H2 s2 I2 hE hT2 hf nf _ hc' => wpAny_bind (wpAny_standAt (wpAny_pure (wpAny_evalAll_nil ?_)))))
  show wpAny _ _ (call (.builtin "sorted") [.ref a] [(Str.ofString "key", .ref f)]) _ _ s2
  obtain ⟨its, rv, hl, hz⟩ := I2.list (extN_l hE hS)
  obtain ⟨⟨oc, ovs, ot, c1, c2, c3⟩, _⟩ := I2.hok _ _ hc'
  have hcr : s2.heap.CodeRec (.ref c') (X.env.qual ++ "<lambda>") := ⟨c', oc, ovs, ot, rfl, c1, c2, c3⟩
  let R : Value → V × Str → Prop := fun u b => RelV b.1 u ∧ ∃ r its t, u = Value.ref r ∧ IsTup s2.heap r (List.toArray its) ∧ its[0]? = some (.str b.2 t)
  have er : PySem.W.EachIs R its (vs.zip nms) := each_zip rv hB fun v u n rvu ⟨r, ws, ev, hq⟩ => by
    subst ev
    obtain ⟨jts, rj, hj, _⟩ := I2.tuple (extN_t hE hq)
    obtain ⟨u0, hu0, ru0⟩ := rj.get (i := 0) (x := V.str n) rfl
    obtain ⟨t, rfl⟩ := ru0
    exact ⟨rvu, r, jts, t, rvu, hj, hu0⟩
  have hlen : vs.length = nms.length := Paired.length hB
  refine PySem.W.sorted_key_data (β := V × Str) (R := R) (bs := vs.zip nms) (b := false) (fun b => .str b.2) hl.isList er (PySem.W.AllAlike.of fun _ _ => by simp [PySem.W.alike]) (PySem.W.Sortable.others fun b => ⟨by simp, by simp⟩)
    (by rw [List.length_zip, ← hlen, Nat.min_self]; exact hz) (fun b _ => by simp only [PyData.depth]; have := hr.un; omega) (ksk_s1 _ _) (fun x => ?_) (fun x => ksk_t1 f x) ?_ ?_
  · unfold argsOk
    kernel_rfl
  · rintro v b ⟨rb, r, jts, t, rfl, hj, h0⟩ _ g tk hkeep
    have hlim : g.NoLimit := I2.nolimit.keeps hkeep
    obtain ⟨o, ho, hc, n, hd⟩ := hj
    exact lam_first (s := { s2 with heap := g, toks := tk }) (hkeep _ _ hf) (hcr.keeps hkeep) hlim (by have := hr.dp; show X.A.depth < recursionLimit; omega) (fun v => hbind _ _ _ _ _ _) hy hdb hco hgen hk (fun z hz => (hcell z hz).1) ⟨o, hkeep _ _ ho, hc, n, hd⟩ h0
  · intro out cc h' tk hkeep _ hnew hol eo
    have rw' := vals_fst (fun u b z => z.1) eo
    have hp : (((vs.zip nms).mergeSort (PySem.W.dataLe false fun b => PyData.str b.2)).map (·.1)).Perm vs := by
      refine ((List.mergeSort_perm _ _).map _).trans ?_
      rw [List.map_fst_zip (Nat.le_of_eq hlen)]
    have hl2 : (((vs.zip nms).mergeSort (PySem.W.dataLe false fun b => PyData.str b.2)).map (·.1)).length ≤ sizeLine := by rw [hp.length_eq]; exact hz
    exact ⟨.ref _, upd H2 (s2.heap.objs.size + 1) (.lst _), I2.laid (t' := tk) hkeep (Nat.le_succ _) ⟨hl2, out, cc, rw', hnew⟩, rfl, q _ _ _ hp hE hT2 (I2.hok.fresh (Nat.le_succ _))⟩
end
end Orl
set_option Elab.async false
set_option linter.all false
set_option maxRecDepth 100000
set_option maxHeartbeats 4000000
/-! E1: the end of the law's row: the call of the law, one table of code objects, no repr under way. -/
namespace Orl
open PySem PySem.Spec PyProof.Rows L2 LamX

/-- what is tracked when the law is entered: the table, and the script where the written part has it not -/
def H0 (K : PySem.W.Frag) (a T : Addr) (vs : List Value) (ns : List Int) : Hp := fun b =>
  if b = T then some (.tbl #[]) else if b = a ∧ (K.lookup a).isNone = true then some (.frz { cls := .type "list", data := .seq vs.toArray } (.lst (ns.map V.int))) else none

section
variable {K : PySem.W.Frag} {a T : Addr} {vs : List Value} {ns : List Int} {h : Heap}
theorem H0_T : H0 K a T vs ns T = some (.tbl #[]) := if_pos rfl
theorem H0_ways (K : PySem.W.Frag) (a T : Addr) (vs : List Value) (ns : List Int) (b : Addr) : (b = T ∧ H0 K a T vs ns b = some (.tbl #[])) ∨
    (b ≠ T ∧ b = a ∧ K.lookup a = none ∧ H0 K a T vs ns b = some (.frz { cls := .type "list", data := .seq vs.toArray } (.lst (ns.map V.int)))) ∨ (b ≠ T ∧ H0 K a T vs ns b = none ∧ (b = a → K.lookup a ≠ none)) := by
  unfold H0
  by_cases h1 : b = T
  · exact .inl ⟨h1, if_pos h1⟩
  · rw [if_neg h1]
    by_cases h2 : b = a ∧ (K.lookup a).isNone = true
    · exact .inr (.inl ⟨h1, h2.1, Option.isNone_iff_eq_none.mp h2.2, if_pos h2⟩)
    · refine .inr (.inr ⟨h1, if_neg h2, fun e z => h2 ⟨e, ?_⟩⟩)
      rw [z]
      rfl
theorem H0_free (hT : h.get? T = some { cls := .none, data := .fields #[] }) (ha : h.get? a = some { cls := .type "list", data := .seq vs.toArray }) {b : Addr} {o : Obj} (e : h.get? b = some o)
    (h1 : ∀ xs n, o.data ≠ .seq xs n) (h2 : o.data ≠ .fields #[]) : H0 K a T vs ns b = none := by
  rcases H0_ways K a T vs ns b with ⟨eb, _⟩ | ⟨_, eb, _⟩ | ⟨_, q, _⟩
  · rw [eb, hT] at e
    cases e
    exact absurd rfl h2
  · rw [eb, ha] at e
    cases e
    exact absurd rfl (h1 _ _)
  · exact q
end

theorem law_run {P : Program} {w : World} {K : PySem.W.Frag} {mg mb : Str → Option Value} {k : Nat} {fa a c T : Addr} {sp : Pr} {s₁ : Shared} {vs : List Value} {ns : List Int}
    (KX : K.In s₁.heap) (hns : s₁.heap.Ns mainGlobals mg) (hb : s₁.heap.Ns builtinsNs mb) (hbb : ∀ x : Str, x ≠ "__name__" → mb x = bootBuiltins x) (hlim : s₁.heap.NoLimit) (hg : s₁.gens = #[])
    (hT : s₁.heap.get? T = some { cls := .none, data := .fields #[] }) (nT : K.lookup T = none) (C : PySem.W.CodeHd s₁.heap c T)
    (hbm : ∃ (bm : Addr) (ob : Obj), mg "__builtins__" = some (.ref bm) ∧ bm ≠ builtinsNs ∧ s₁.heap.get? bm = some ob ∧ ob.cls = .type "module" ∧ ob.dict = some builtinsNs ∧ ob.data = .plain)
    (ha : s₁.heap.get? a = some { cls := .type "list", data := .seq vs.toArray }) (hi : IntsAre vs ns) (hl : ns.length ≤ sizeLine) (hr : Room k callerA)
    (F : ∀ base : Heap, K.In base → base.Ns mainGlobals mg → TabB base mg c T → FnG P w K mg base k fa 1 sp)
    (hsp : ∀ H : Hp, H T = some (.tbl #[]) → SqL K H a (ns.map V.int) → sp [.ref a] H (fun v _ => v = .bl true)) :
    codeAny (model P w) callerA (.call (.ref fa) ⟨[.ref a], []⟩) (fun r s' => r = .ok (.ret (.bool true)) ∧ OldK s₁.heap s'.heap ∧ s'.os = s₁.os ∧ AllBare s'.gens) s₁ := by
  have rv : Vals (ns.map V.int) vs := vals_ints hi
  have len : vs.length = ns.length := hi.length
  let H : Hp := H0 K a T vs ns
  let base : Heap := hidT s₁.heap H
  have ways := H0_ways K a T vs ns
  have seen : ∀ {b : Addr} {o : Obj}, s₁.heap.get? b = some o → H b = none → base.get? b = some o := fun e n => hidT_get e n
  have free : ∀ {b : Addr} {o : Obj}, s₁.heap.get? b = some o → (∀ xs n, o.data ≠ .seq xs n) → o.data ≠ .fields #[] → base.get? b = some o := fun e h1 h2 => seen e (H0_free hT ha e h1 h2)
  have dict : ∀ {b : Addr} {m : Str → Option Value}, s₁.heap.Ns b m → base.Ns b m := by
    rintro b m ⟨o, es, ep, e, d, r⟩
    refine ⟨o, es, ep, free e ?_ ?_, d, r⟩
    · intro xs n z
      rw [d] at z
      cases z
    · intro z
      rw [d] at z
      cases z
  have kb : K.In base := by
    intro b o e
    refine seen (KX b o e) ?_
    rcases ways b with ⟨eb, _⟩ | ⟨_, eb, q, _⟩ | ⟨_, q, _⟩
    · rw [eb, nT] at e
      cases e
    · rw [eb, q] at e
      cases e
    · exact q
  have gT : mainGlobals ≠ T := by
    intro z
    obtain ⟨o, es, ep, e, hd, _⟩ := hns
    rw [z, hT] at e
    cases e
    cases hd
  have tb : TabB base mg c T := by
    refine ⟨?_, ?_, gT⟩
    · obtain ⟨o, us, file, tf, flags, tg, inF, text, tt, e1, r1, r2, r3, rest⟩ := C
      refine ⟨o, us, file, tf, flags, tg, inF, text, tt, free e1 ?_ ?_, r1, r2, r3, rest⟩
      · intro xs n z
        rw [r2] at z
        cases z
      · intro z
        rw [r2] at z
        cases z
        simp at r3
    · obtain ⟨bm, ob, b1, b2, b3, b4, b5, b6⟩ := hbm
      have n1 : bm ≠ mainGlobals := by
        intro q
        obtain ⟨o, es, ep, e, hd, _⟩ := hns
        rw [q, e] at b3
        cases b3
        rw [hd] at b6
        cases b6
      have n2 : bm ≠ T := by
        intro q
        rw [q, hT] at b3
        cases b3
        cases b6
      refine ⟨bm, ob, b1, b2, n1, n2, free b3 ?_ ?_, b4, b5, b6⟩
      · intro xs n z
        rw [b6] at z
        cases z
      · intro z
        rw [b6] at z
        cases z
  have hok : HOk P w H s₁.heap := by
    intro b u e
    rcases ways b with ⟨eb, q⟩ | ⟨_, eb, _, q⟩ | ⟨_, q, _⟩
    · have e' : some u = some (HO.tbl #[]) := e.symm.trans q
      cases e'
      rw [eb]
      exact hT
    · have e' : some u = some (HO.frz { cls := .type "list", data := .seq vs.toArray } (.lst (ns.map V.int))) := e.symm.trans q
      cases e'
      rw [eb]
      refine ⟨ha, ?_, vs, _, rv, ha⟩
      rw [List.length_map]
      exact hl
    · have e' : some u = none := e.symm.trans q
      cases e'
  have script : SqL K H a (ns.map V.int) := by
    rcases ways a with ⟨eb, _⟩ | ⟨_, _, _, q⟩ | ⟨_, _, q⟩
    · rw [← eb, ha] at hT
      cases hT
    · exact .inl (.inr ⟨_, q⟩)
    · cases hk : K.lookup a with
      | none => exact absurd hk (q rfl)
      | some o =>
        have e := KX a o hk
        rw [ha] at e
        cases e
        refine .inr ⟨_, vs.toArray, _, hk, rfl, rfl, rfl, ?_, ?_⟩
        · rw [List.size_toArray, len]
          exact hl
        · simpa using rv
  have modb : L2.Mod K mg base := by
    obtain ⟨mc, h1, h2⟩ := hlim
    exact ⟨kb, dict hns, ⟨mb, dict hb, hbb⟩, ⟨mc, dict h1, h2⟩⟩
  have e0 : Env0 P w K mg base callerA [] s₁ H := by
    refine ⟨rfl, modb, fun b o e => of_hidT e, Nat.le_of_eq (hidT_size _ _), trivial, ?_, hok, .of_eq hg⟩
    intro b hb
    cases hb
  refine codeAny_mono ((F base kb (dict hns) tb).run callerA [] s₁ H [.ref a] [.ref a] _ hr rfl e0 (.cons rfl .nil) (hsp H H0_T script)) ?_
  rintro _ s' ⟨u, rfl, v, H', os, bare, un, hok', ru, q⟩
  subst q
  obtain rfl : u = Value.bool true := ru
  obtain ⟨more, zT⟩ := un.tbls T #[] H0_T
  have grown : s'.heap.get? T = some { cls := .none, data := .fields (#[] ++ more) } := hok' T _ zT
  have same : ∀ b o, b ≠ T → s₁.heap.get? b = some o → s'.heap.get? b = some o := by
    intro b o nb e
    rcases ways b with ⟨eb, _⟩ | ⟨_, _, _, q⟩ | ⟨_, q, _⟩
    · exact absurd eb nb
    · have z := un.frzs b _ _ q
      obtain ⟨e1, _⟩ := hok b _ q
      obtain ⟨e2, _⟩ := hok' b _ z
      rw [e] at e1
      cases e1
      exact e2
    · refine un.keep b o e q ?_ ?_
      · intro z
        cases z
      · intro z
        cases z
  refine ⟨rfl, ⟨?_, ?_⟩, os, bare⟩
  · intro b o e
    by_cases eb : b = T
    · subst eb
      rw [hT] at e
      cases e
      exact .inr (.inl ⟨(C.tab hT).isCodeTable, rfl, #[], more, rfl, grown⟩)
    · exact .inl (same b o eb e)
  · intro b o e
    by_cases eb : b = T
    · subst eb
      exact ⟨_, grown⟩
    · exact ⟨o, same b o eb e⟩

theorem walk_own {l : PySem.W.OpenLaw} {n k : Nat} {q : Program} {loose : List Str} {XP : (Str → Option Value) → Heap → Prop} {YP : World → Heap → Prop} {d : DefRec}
    (hn : l.most = some n) (hn2 : n ≤ sizeLine) (hdf : d.params.defaults = []) (hr : Room k callerA)
    (F : ∀ (w : World) (mg : Str → Option Value) (fa : Addr) (h : Heap), YP w h → h.Ns mainGlobals mg → mg d.name = some (.ref fa) → ∃ (K : PySem.W.Frag) (c T : Addr) (sp : Pr), K.In h ∧ h.get? T = some { cls := .none, data := .fields #[] } ∧ K.lookup T = none ∧ PySem.W.CodeHd h c T ∧
      (∀ (H : Hp) (a : Addr) (ns : List Int), ns.length ≤ n → H T = some (.tbl #[]) → SqL K H a (ns.map V.int) → sp [.ref a] H (fun v _ => v = .bl true)) ∧
      ∀ base : Heap, K.In base → base.Ns mainGlobals mg → TabB base mg c T → FnG l.prog w K mg base k fa 1 sp) :
    PySem.W.WalkO q loose XP YP l.row.toRowW d [] (fun f vs => PySem.call f vs) := by
  refine Att.attach_callB hn hdf ?_
  intro w s₀ s₁ mg mb fa o pm cd doc a vs ns G Y ho hd hcd hmg hobj hints hlen hbits hg
  obtain ⟨K, c, T, sp, KX, hT, nT, C, hsp, hF⟩ := F w mg fa _ Y G.T.g hmg
  exact law_run KX G.T.g G.T.b G.T.builtins G.T.nolimit hg hT nT C G.T.bmain hobj hints (Nat.le_trans hlen hn2) hr hF (fun H h1 h2 => hsp H a ns hlen h1 h2)
end Orl
set_option Elab.async false
set_option linter.all false
set_option maxRecDepth 100000
set_option maxHeartbeats 0
namespace Orl
open PySem PySem.Spec PyProof.Rows L2
def topS (i : Nat) : Stmt := PySem.Challenge.pw_openrules_k21_whole_more_rules_more_fact.main.body.getD i (.Pass ⟨0, 0, 0, 0⟩)
abbrev s_note_variables : Stmt := topS 4
abbrev s_variables_of : Stmt := topS 5
abbrev s_replaced : Stmt := topS 6
abbrev s_instance_of : Stmt := topS 7
abbrev s_power : Stmt := topS 8
abbrev s_choices : Stmt := topS 9
abbrev s_numbered : Stmt := topS 10
abbrev s_numbered_rule : Stmt := topS 13
abbrev s_variable_count : Stmt := topS 14
abbrev s_with_refl : Stmt := topS 15
abbrev s_ground_instances : Stmt := topS 18
abbrev s_first_instances : Stmt := topS 19
abbrev s_facts_within : Stmt := topS 20
abbrev s_law_tape : Stmt := topS 22
abbrev s_law_draw : Stmt := topS 23
abbrev s_law_word : Stmt := topS 24
abbrev s_law_symbols : Stmt := topS 25
abbrev s_law_term : Stmt := topS 26
abbrev s_law_replaced : Stmt := topS 27
abbrev s_law_collect : Stmt := topS 28
abbrev s_law_variables : Stmt := topS 29
abbrev s_law_numbered : Stmt := topS 30
abbrev s_law_size : Stmt := topS 31
abbrev s_law_alike : Stmt := topS 32
abbrev s_law_names : Stmt := topS 33
abbrev s_law_atom : Stmt := topS 34
abbrev s_law_table : Stmt := topS 35
abbrev s_law_choices : Stmt := topS 36
abbrev s_law_universe : Stmt := topS 37
abbrev s_law_rules : Stmt := topS 38
abbrev s_law_relations : Stmt := topS 39
abbrev s_law_levels : Stmt := topS 40
abbrev s_law_facts : Stmt := topS 41
abbrev s_law_rule_over : Stmt := topS 42
abbrev s_law_rule : Stmt := topS 43
abbrev s_law : Stmt := topS 44
def dOf (x : Str) (st : Stmt) : He.DefD := ⟨(x, none), x, x, defArgs st, defBody st, defScope st, [], []⟩
def fnL : List He.DefD := [dOf "note_variables" s_note_variables, dOf "variables_of" s_variables_of, dOf "replaced" s_replaced, dOf "instance_of" s_instance_of, dOf "power" s_power, dOf "choices" s_choices, dOf "numbered" s_numbered, dOf "numbered_rule" s_numbered_rule, dOf "variable_count" s_variable_count, dOf "with_refl" s_with_refl, dOf "ground_instances" s_ground_instances, dOf "first_instances" s_first_instances, dOf "facts_within" s_facts_within, dOf "_law_tape" s_law_tape, dOf "_law_draw" s_law_draw, dOf "_law_word" s_law_word, dOf "_law_symbols" s_law_symbols, dOf "_law_term" s_law_term, dOf "_law_replaced" s_law_replaced, dOf "_law_collect" s_law_collect, dOf "_law_variables" s_law_variables, dOf "_law_numbered" s_law_numbered, dOf "_law_size" s_law_size, dOf "_law_alike" s_law_alike, dOf "_law_names" s_law_names, dOf "_law_atom" s_law_atom, dOf "_law_table" s_law_table, dOf "_law_choices" s_law_choices, dOf "_law_universe" s_law_universe, dOf "_law_rules" s_law_rules, dOf "_law_relations" s_law_relations, dOf "_law_levels" s_law_levels, dOf "_law_facts" s_law_facts, dOf "_law_rule_over" s_law_rule_over, dOf "_law_rule" s_law_rule, dOf "law" s_law]
def faL : List He.Fa := ([.glo "note_variables", .glo "variables_of", .glo "replaced", .glo "instance_of", .glo "power", .glo "choices", .glo "numbered", .glo "numbered_rule", .glo "variable_count", .glo "with_refl", .glo "ground_instances", .glo "first_instances", .glo "facts_within", .glo "_law_tape", .glo "_law_draw", .glo "_law_word", .glo "_law_symbols", .glo "_law_term", .glo "_law_replaced", .glo "_law_collect", .glo "_law_variables", .glo "_law_numbered", .glo "_law_size", .glo "_law_alike", .glo "_law_names", .glo "_law_atom"] : List He.Fa) ++ ([.glo "_law_table", .glo "_law_choices", .glo "_law_universe", .glo "_law_rules", .glo "_law_relations", .glo "_law_levels", .glo "_law_facts", .glo "_law_rule_over", .glo "_law_rule", .glo "law", .glo "REFL", .int "MOST_CHOICES" 600, .free "isinstance", .free "int", .free "tuple", .free "list", .free "len", .free "range", .free "repr", .free "sum", .free "sorted", .free "all", .free "abs", .free "max", .free "str"] : List He.Fa)
def itemAt (a : Addr) (i : Nat) (K : PySem.W.Frag) : Addr := match K.lookup a with
  | some ⟨_, _, .seq its _, _⟩ => (match its.toList[i]? with
    | some (.ref b) => b
    | _ => 0)
  | _ => 0
def tupleB (K : PySem.W.Frag) (a : Addr) (vs : List V) : Bool := match K.lookup a with
  | some ⟨.type c, _, .seq its _, _⟩ => decide (c = "tuple") && (decide (its.size ≤ sizeLine) && He.relAll vs its.toList)
  | _ => false
theorem tupleB_ok {K : PySem.W.Frag} {a : Addr} {vs : List V} (h : tupleB K a vs = true) (H : Hp) : SqT K H a vs := by
  unfold tupleB at h
  split at h
  · rename_i c od its n osl q
    simp only [Bool.and_eq_true, decide_eq_true_eq] at h
    obtain ⟨rfl, h3, h4⟩ := h
    exact .inr ⟨_, its, n, q, rfl, rfl, h3, He.relAll_ok h4⟩
  · cases h
def reflA (K : PySem.W.Frag) : Addr := He.ga K "REFL"
def exB (K : PySem.W.Frag) : Bool := tupleB K (reflA K) [.str "refl", .ref (itemAt (reflA K) 1 K), .ref (itemAt (reflA K) 2 K)] && (tupleB K (itemAt (reflA K) 1 K) [] && tupleB K (itemAt (reflA K) 2 K) [.str "=", .int 0, .int 0])
def tfL : List He.Defn := [("with_refl", none)]
abbrev Rr : PySem.W.OpenRow := PySem.W.OpenLaw.row PySem.Challenge.rw_openrules_k21_whole_more_rules_more_fact
abbrev hkL : PySem.W.Hook := He.hookX 3 faL fnL [] tfL exB
def obL (s : PySem.W.SharedT) : He.AlX := He.obsX 3 faL fnL [] tfL exB (HandSHeadRun.getT s)
theorem obL_eq (s : PySem.W.SharedT) : obL s = hkL.obs s.abs := He.obsX_eq (HandSHeadRun.getT_eq s)
def loose : List Str := (["RuleError", "TooLarge", "note_variables", "variables_of", "replaced", "instance_of", "power", "choices", "numbered", "REFL", "numbered_rule", "variable_count", "with_refl", "MOST_CHOICES", "ground_instances", "first_instances", "facts_within", "_law_tape", "_law_draw", "_law_word"] : List Str) ++ (["_law_symbols", "_law_term", "_law_replaced", "_law_collect", "_law_variables", "_law_numbered", "_law_size", "_law_alike", "_law_names", "_law_atom", "_law_table", "_law_choices", "_law_universe", "_law_rules", "_law_relations", "_law_levels", "_law_facts", "_law_rule_over", "_law_rule"] : List Str)
theorem run (w : World) : HandSHeadRun.RunEq Rr (PySem.W.view Rr.prog [44]) hkL obL 4000 loose w := by
  intro os
  kernel_rfl
end Orl
set_option Elab.async false
set_option linter.all false
set_option maxRecDepth 100000
set_option maxHeartbeats 4000000
/-! M1: terms, their data, their texts, their order. -/
namespace Orl
open PySem

/-- a term or an atom: a variable, an application -/
inductive T where
  | v (n : Nat)
  | a (f : Str) (ts : List T)
mutual
def enc : T → PyData
  | .v n => .int n
  | .a f ts => .tuple (.str f :: encs ts)
def encs : List T → List PyData
  | [] => []
  | t :: r => enc t :: encs r
end
theorem encs_map : ∀ ts : List T, encs ts = ts.map enc
  | [] => rfl
  | t :: r => by rw [encs, encs_map r]; rfl

/-- a sign that a name may hold -/
def okC (c : Nat) : Bool := (decide (48 ≤ c) && decide (c ≤ 57)) || (decide (65 ≤ c) && decide (c ≤ 90)) || (decide (97 ≤ c) && decide (c ≤ 122)) || decide (c = 61)
def Nm (f : Str) : Prop := f.cps.toList.length ≤ 20 ∧ ∀ c ∈ f.cps.toList, okC c = true

mutual
/-- names in order, at most three arguments, nested to depth d -/
def Fit : T → Nat → Prop
  | .v _, _ => True
  | .a f ts, d => 0 < d ∧ Nm f ∧ ts.length ≤ 3 ∧ Fits ts (d - 1)
def Fits : List T → Nat → Prop
  | [], _ => True
  | t :: r, d => Fit t d ∧ Fits r d
end
mutual
/-- all variables below n -/
def Lo : T → Nat → Prop
  | .v k, n => k < n
  | .a _ ts, n => Los ts n
def Los : List T → Nat → Prop
  | [], _ => True
  | t :: r, n => Lo t n ∧ Los r n
end
theorem fits_iff {d : Nat} : ∀ {ts : List T}, Fits ts d ↔ ∀ t ∈ ts, Fit t d
  | [] => by simp [Fits]
  | t :: r => by simp [Fits, fits_iff (ts := r)]
theorem los_iff {n : Nat} : ∀ {ts : List T}, Los ts n ↔ ∀ t ∈ ts, Lo t n
  | [] => by simp [Los]
  | t :: r => by simp [Los, los_iff (ts := r)]
mutual
theorem Fit.up : ∀ {t : T} {d e : Nat}, Fit t d → d ≤ e → Fit t e
  | .v _, _, _, _, _ => by simp [Fit]
  | .a f ts, d, e, h, l => by
    simp only [Fit] at h ⊢
    exact ⟨by omega, h.2.1, h.2.2.1, Fits.up h.2.2.2 (by omega)⟩
theorem Fits.up : ∀ {ts : List T} {d e : Nat}, Fits ts d → d ≤ e → Fits ts e
  | [], _, _, _, _ => by simp [Fits]
  | t :: r, d, e, h, l => by
    simp only [Fits] at h ⊢
    exact ⟨Fit.up h.1 l, Fits.up h.2 l⟩
end
mutual
theorem Lo.up : ∀ {t : T} {d e : Nat}, Lo t d → d ≤ e → Lo t e
  | .v _, _, _, h, l => by simp only [Lo] at h ⊢; omega
  | .a f ts, d, e, h, l => by
    simp only [Lo] at h ⊢
    exact Los.up h l
theorem Los.up : ∀ {ts : List T} {d e : Nat}, Los ts d → d ≤ e → Los ts e
  | [], _, _, _, _ => by simp [Los]
  | t :: r, d, e, h, l => by
    simp only [Los] at h ⊢
    exact ⟨Lo.up h.1 l, Los.up h.2 l⟩
end

/-! ### texts -/
theorem repr_c : ∀ c, okC c = true → Builtin.Str.reprChar 39 c = [c] ∧ c < 123 ∧ c ≠ 39 := by
  have small : ∀ c, c < 123 → okC c = true → Builtin.Str.reprChar 39 c = [c] ∧ c < 123 ∧ c ≠ 39 := by decide +kernel
  intro c h
  refine small c ?_ h
  simp only [okC, Bool.or_eq_true, Bool.and_eq_true, decide_eq_true_eq] at h
  omega
theorem foldl_ok : ∀ (l : List Nat) (acc : Array Nat), (∀ c ∈ l, okC c = true) → (l.foldl (fun out c => out ++ (Builtin.Str.reprChar 39 c).toArray) acc).toList = acc.toList ++ l
  | [], acc, _ => by simp
  | c :: r, acc, h => by
    rw [List.foldl_cons, foldl_ok r _ (fun x hx => h x (List.mem_cons_of_mem _ hx)), (repr_c c (h c (List.mem_cons_self ..))).1]
    simp
theorem repr_nm {f : Str} (h : Nm f) : (reprText f).cps.toList = 39 :: (f.cps.toList ++ [39]) := by
  have q : reprQuote f = 39 := by
    unfold reprQuote
    have : f.cps.contains 39 = false := by
      rw [Bool.eq_false_iff]
      intro z
      have hm : (39 : Nat) ∈ f.cps.toList := by simpa using z
      exact (repr_c 39 (h.2 39 hm)).2.2 rfl
    rw [this]
    rfl
  unfold reprText
  rw [q, ← Array.foldl_toList]
  simp only [Array.toList_push, foldl_ok _ _ h.2]
  simp

mutual
def txt : T → List Nat
  | .v _ => []
  | .a f ts => 40 :: 39 :: (f.cps.toList ++ 39 :: (if ts.length = 0 then [44, 41] else txts ts))
def txts : List T → List Nat
  | [] => [41]
  | t :: ts => 44 :: 32 :: (txt t ++ txts ts)
end
theorem app_l (x y : Str) : (x ++ y).cps.toList = x.cps.toList ++ y.cps.toList := by
  show (x.cps ++ y.cps).toList = _
  simp
mutual
theorem shown_txt : ∀ (t : T) (d : Nat), Fit t d → Lo t 0 → (PyData.shown (enc t)).cps.toList = txt t
  | .v n, _, _, h => by simp [Lo] at h
  | .a f ts, d, h, l => by
    simp only [Fit] at h
    simp only [Lo] at l
    have e := joins_txt ts (d - 1) h.2.2.2 l
    show (tupleText (reprText f :: PyData.shownAll (encs ts))).cps.toList = _
    unfold tupleText
    rw [app_l, app_l, txt]
    cases ts with
    | nil =>
      show _ ++ (reprText f).cps.toList ++ _ = _
      rw [repr_nm h.2.1]
      show [40] ++ 39 :: (f.cps.toList ++ [39]) ++ [44, 41] = _
      simp
    | cons t r =>
      have j : (Str.join ", " (reprText f :: PyData.shownAll (encs (t :: r)))).cps.toList ++ [41] = 39 :: (f.cps.toList ++ 39 :: txts (t :: r)) := by
        show ((reprText f ++ ", " ++ Str.join ", " (PyData.shownAll (encs (t :: r)))) : Str).cps.toList ++ [41] = _
        rw [app_l, app_l, repr_nm h.2.1]
        have e2 := e (by simp)
        have e3 : ((", " : String) : Str).cps.toList = [44, 32] := rfl
        rw [e3]
        rw [txts]
        rw [txts] at e2
        have e4 : (Str.join ", " (PyData.shownAll (encs (t :: r)))).cps.toList ++ [41] = txt t ++ txts r := by
          have := List.cons.inj e2
          exact (List.cons.inj this.2).2
        simp only [List.append_assoc, e4]
        simp
      have c1 : ((reprText f :: PyData.shownAll (encs (t :: r))).length == 1) = false := by
        show ((PyData.shownAll (encs (t :: r))).length + 1 == 1) = false
        simp [encs, PyData.shownAll]
      rw [c1]
      have c2 : (t :: r).length ≠ 0 := by simp
      rw [if_neg c2]
      show [40] ++ _ ++ [41] = _
      rw [List.append_assoc, j]
      rfl
theorem joins_txt : ∀ (ts : List T) (d : Nat), Fits ts d → Los ts 0 → ts ≠ [] → 44 :: 32 :: ((Str.join ", " (PyData.shownAll (encs ts))).cps.toList ++ [41]) = txts ts
  | [], _, _, _, h => absurd rfl h
  | [t], d, h, l, _ => by
    simp only [Fits] at h
    simp only [Los] at l
    have e := shown_txt t d h.1 l.1
    show 44 :: 32 :: ((PyData.shown (enc t)).cps.toList ++ [41]) = _
    rw [e]
    simp [txts]
  | t :: u :: r, d, h, l, _ => by
    have h' : Fit t d ∧ Fits (u :: r) d := by simpa [Fits] using h
    have l' : Lo t 0 ∧ Los (u :: r) 0 := by simpa [Los] using l
    have e := shown_txt t d h'.1 l'.1
    have e2 := joins_txt (u :: r) d h'.2 l'.2 (by simp)
    show 44 :: 32 :: ((PyData.shown (enc t) ++ ", " ++ Str.join ", " (PyData.shownAll (encs (u :: r))) : Str).cps.toList ++ [41]) = _
    rw [app_l, app_l, e]
    have e3 : ((", " : String) : Str).cps.toList = [44, 32] := rfl
    rw [e3, txts, ← e2]
    simp
end

theorem name_cut : ∀ {f g r s : List Nat}, 39 ∉ f → 39 ∉ g → f ++ 39 :: r = g ++ 39 :: s → f = g ∧ r = s
  | [], [], _, _, _, _, e => ⟨rfl, (List.cons.inj e).2⟩
  | [], b :: g, _, _, _, h, e => by
    have := (List.cons.inj e).1
    exact absurd (by rw [← this]; exact List.mem_cons_self ..) h
  | b :: f, [], _, _, h, _, e => by
    have := (List.cons.inj e).1
    exact absurd (by rw [this]; exact List.mem_cons_self ..) h
  | b :: f, c :: g, r, s, h, h', e => by
    obtain ⟨e1, e2⟩ := List.cons.inj e
    obtain ⟨e3, e4⟩ := name_cut (fun z => h (List.mem_cons_of_mem _ z)) (fun z => h' (List.mem_cons_of_mem _ z)) e2
    exact ⟨by rw [e1, e3], e4⟩
theorem nm_no {f : Str} (h : Nm f) : (39 : Nat) ∉ f.cps.toList := fun z => (repr_c 39 (h.2 39 z)).2.2 rfl
theorem str_ext {x y : Str} (h : x.cps.toList = y.cps.toList) : x = y := PySem.W.str_of_cps h
mutual
theorem txt_inj : ∀ (t u : T) (d e : Nat) (r s : List Nat), Fit t d → Lo t 0 → Fit u e → Lo u 0 → txt t ++ r = txt u ++ s → t = u ∧ r = s
  | .v _, _, _, _, _, _, _, h, _, _, _ => by simp [Lo] at h
  | .a _ _, .v _, _, _, _, _, _, _, _, h, _ => by simp [Lo] at h
  | .a f ts, .a g us, d, e, r, s, h1, l1, h2, l2, q => by
    simp only [Fit] at h1 h2
    simp only [Lo] at l1 l2
    rw [txt, txt] at q
    simp only [List.append_assoc, List.cons_append] at q
    have q1 := (List.cons.inj (List.cons.inj q).2).2
    obtain ⟨e1, e2⟩ := name_cut (nm_no h1.2.1) (nm_no h2.2.1) q1
    have ef := str_ext e1
    subst ef
    cases ts with
    | nil =>
      cases us with
      | nil => exact ⟨rfl, by simpa using e2⟩
      | cons u us =>
        simp [txts] at e2
    | cons t ts =>
      cases us with
      | nil => simp [txts] at e2
      | cons u us =>
        have n1 : (t :: ts).length ≠ 0 := by simp
        have n2 : (u :: us).length ≠ 0 := by simp
        rw [if_neg n1, if_neg n2] at e2
        obtain ⟨e3, e4⟩ := txts_inj (t :: ts) (u :: us) _ _ r s h1.2.2.2 l1 h2.2.2.2 l2 e2
        rw [e3]
        exact ⟨rfl, e4⟩
theorem txts_inj : ∀ (ts us : List T) (d e : Nat) (r s : List Nat), Fits ts d → Los ts 0 → Fits us e → Los us 0 → txts ts ++ r = txts us ++ s → ts = us ∧ r = s
  | [], [], _, _, _, _, _, _, _, _, q => ⟨rfl, by simpa [txts] using q⟩
  | [], _ :: _, _, _, _, _, _, _, _, _, q => by simp [txts] at q
  | _ :: _, [], _, _, _, _, _, _, _, _, q => by simp [txts] at q
  | t :: ts, u :: us, d, e, r, s, h1, l1, h2, l2, q => by
    simp only [Fits] at h1 h2
    simp only [Los] at l1 l2
    rw [txts, txts] at q
    simp only [List.append_assoc, List.cons_append] at q
    have q1 := (List.cons.inj (List.cons.inj q).2).2
    obtain ⟨e1, e2⟩ := txt_inj t u d e _ _ h1.1 l1.1 h2.1 l2.1 q1
    obtain ⟨e3, e4⟩ := txts_inj ts us d e _ _ h1.2 l1.2 h2.2 l2.2 e2
    rw [e1, e3]
    exact ⟨rfl, e4⟩
end
/-- the key of a fact -/
def key (t : T) : Str := PyData.shown (enc t)
theorem key_inj {t u : T} {d e : Nat} (h1 : Fit t d) (l1 : Lo t 0) (h2 : Fit u e) (l2 : Lo u 0) (q : key t = key u) : t = u := by
  have q1 : txt t = txt u := by rw [← shown_txt t d h1 l1, ← shown_txt u e h2 l2]; exact congrArg (fun x : Str => x.cps.toList) q
  exact (txt_inj t u d e [] [] h1 l1 h2 l2 (by simpa using q1)).1
mutual
theorem txt_len : ∀ (t : T) (d : Nat), Fit t d → (txt t).length + 30 ≤ 100 * 4 ^ d
  | .v _, d, _ => by
    have : 1 ≤ 4 ^ d := Nat.one_le_pow _ _ (by decide)
    simp only [txt, List.length_nil]
    omega
  | .a f ts, d, h => by
    simp only [Fit] at h
    obtain ⟨h0, hn, hl, hf⟩ := h
    have e := txts_len ts (d - 1) hf
    obtain ⟨k, rfl⟩ : ∃ k, d = k + 1 := ⟨d - 1, by omega⟩
    have : 1 ≤ 4 ^ k := Nat.one_le_pow _ _ (by decide)
    have q := hn.1
    simp only [Nat.add_sub_cancel] at e
    have m : ts.length * (100 * 4 ^ k) ≤ 3 * (100 * 4 ^ k) := Nat.mul_le_mul_right _ hl
    rw [txt, Nat.pow_succ]
    by_cases h0 : ts.length = 0
    · rw [if_pos h0]
      simp only [List.length_cons, List.length_append, List.length_nil]
      omega
    · rw [if_neg h0]
      simp only [List.length_cons, List.length_append]
      omega
theorem txts_len : ∀ (ts : List T) (d : Nat), Fits ts d → (txts ts).length ≤ ts.length * (100 * 4 ^ d) + 1
  | [], d, _ => by simp [txts]
  | t :: ts, d, h => by
    simp only [Fits] at h
    have e1 := txt_len t d h.1
    have e2 := txts_len ts d h.2
    rw [txts]
    simp only [List.length_cons, List.length_append]
    rw [Nat.add_mul]
    omega
end

/-! ### shapes of data -/
mutual
theorem enc_depth : ∀ (t : T) (d : Nat), Fit t d → (enc t).depth ≤ d
  | .v _, d, _ => by simp [enc, PyData.depth]
  | .a f ts, d, h => by
    simp only [Fit] at h
    have e := encs_depth ts (d - 1) h.2.2.2
    simp only [enc, PyData.depth, PyData.depthAll]
    omega
theorem encs_depth : ∀ (ts : List T) (d : Nat), Fits ts d → PyData.depthAll (encs ts) ≤ d
  | [], d, _ => by simp [encs, PyData.depthAll]
  | t :: ts, d, h => by
    simp only [Fits] at h
    have e1 := enc_depth t d h.1
    have e2 := encs_depth ts d h.2
    simp only [encs, PyData.depthAll]
    omega
end
theorem nm_strOk {f : Str} (h : Nm f) : PyData.strOk f = true := by
  unfold PyData.strOk
  rw [Array.all_eq_true']
  intro c hc
  have := (repr_c c (h.2 c (by simpa using hc))).2.1
  simp only [decide_eq_true_eq]
  omega
mutual
theorem enc_lay : ∀ (t : T) (d : Nat), Fit t d → (enc t).canLay0 = true
  | .v _, d, _ => by simp [enc, PyData.canLay0]
  | .a f ts, d, h => by
    simp only [Fit] at h
    simp only [enc, PyData.canLay0, PyData.canLayAll0, nm_strOk h.2.1, encs_lay ts (d - 1) h.2.2.2, Bool.and_self]
theorem encs_lay : ∀ (ts : List T) (d : Nat), Fits ts d → PyData.canLayAll0 (encs ts) = true
  | [], d, _ => by simp [encs, PyData.canLayAll0]
  | t :: ts, d, h => by
    simp only [Fits] at h
    simp only [encs, PyData.canLayAll0, enc_lay t d h.1, encs_lay ts d h.2, Bool.and_self]
end
mutual
theorem enc_show : ∀ (t : T), Lo t 0 → (enc t).showable = true ∧ (enc t).hasDict = false
  | .v _, h => by simp [Lo] at h
  | .a f ts, h => by
    simp only [Lo] at h
    obtain ⟨e1, e2⟩ := encs_show ts h
    simp [enc, PyData.showable, PyData.showableAll, PyData.hasDict, PyData.hasDictAll, e1, e2]
theorem encs_show : ∀ (ts : List T), Los ts 0 → PyData.showableAll (encs ts) = true ∧ PyData.hasDictAll (encs ts) = false
  | [], _ => by simp [encs, PyData.showableAll, PyData.hasDictAll]
  | t :: ts, h => by
    simp only [Los] at h
    obtain ⟨e1, e2⟩ := enc_show t h.1
    obtain ⟨e3, e4⟩ := encs_show ts h.2
    simp [encs, PyData.showableAll, PyData.hasDictAll, e1, e2, e3, e4]
end
theorem enc_shaped {t : T} {d : Nat} (h : Fit t d) (hd : d ≤ 64) : SeqAt.shaped (enc t) = true := by
  unfold SeqAt.shaped
  rw [enc_lay t d h, decide_eq_true (Nat.le_trans (enc_depth t d h) hd)]
  rfl
mutual
theorem eqv_iff : ∀ (t u : T), PyData.eqv (enc t) (enc u) = true ↔ t = u
  | .v n, .v m => by simp [enc, PyData.eqv]; omega
  | .v n, .a g us => by simp [enc, PyData.eqv]
  | .a f ts, .v m => by simp [enc, PyData.eqv]
  | .a f ts, .a g us => by
    have e := eqvs_iff ts us
    simp only [enc, PyData.eqv, PyData.eqvAll, Bool.and_eq_true, e, beq_iff_eq, T.a.injEq]
theorem eqvs_iff : ∀ (ts us : List T), PyData.eqvAll (encs ts) (encs us) = true ↔ ts = us
  | [], [] => by simp [encs, PyData.eqvAll]
  | [], _ :: _ => by simp [encs, PyData.eqvAll]
  | _ :: _, [] => by simp [encs, PyData.eqvAll]
  | t :: ts, u :: us => by
    have e1 := eqv_iff t u
    have e2 := eqvs_iff ts us
    simp only [encs, PyData.eqvAll, Bool.and_eq_true, e1, e2, List.cons.injEq]
end
instance : DecidableEq T := fun t u => decidable_of_iff _ (eqv_iff t u)
theorem any_eqv (t : T) (ts : List T) : ((ts.map enc).any fun z => PyData.eqv z (enc t)) = decide (t ∈ ts) := by
  rw [List.any_map, Bool.eq_iff_iff, List.any_eq_true, decide_eq_true_eq]
  constructor
  · rintro ⟨x, hx, e⟩
    rw [← (eqv_iff x t).mp e]
    exact hx
  · intro h
    exact ⟨t, h, (eqv_iff t t).mpr rfl⟩
mutual
theorem enc_alike : ∀ (t u : T), Lo t 0 → Lo u 0 → PySem.W.alike (enc t) (enc u) = true
  | .v _, _, h, _ => by simp [Lo] at h
  | .a _ _, .v _, _, h => by simp [Lo] at h
  | .a f ts, .a g us, h1, h2 => by
    simp only [Lo] at h1 h2
    simp [enc, PySem.W.alike, PySem.W.alikeAll, encs_alike ts us h1 h2]
theorem encs_alike : ∀ (ts us : List T), Los ts 0 → Los us 0 → PySem.W.alikeAll (encs ts) (encs us) = true
  | [], _, _, _ => by simp [encs, PySem.W.alikeAll]
  | _ :: _, [], _, _ => by simp [encs, PySem.W.alikeAll]
  | t :: ts, u :: us, h1, h2 => by
    simp only [Los] at h1 h2
    simp [encs, PySem.W.alikeAll, enc_alike t u h1.1 h2.1, encs_alike ts us h1.2 h2.2]
end
mutual
theorem toks_inj : ∀ (t u : T) (r s : List (Int ⊕ List Nat)), Lo t 0 → Lo u 0 → PySem.W.keyToks (enc t) ++ r = PySem.W.keyToks (enc u) ++ s → t = u ∧ r = s
  | .v _, _, _, _, h, _, _ => by simp [Lo] at h
  | .a _ _, .v _, _, _, _, h, _ => by simp [Lo] at h
  | .a f ts, .a g us, r, s, h1, h2, q => by
    simp only [Lo] at h1 h2
    simp only [enc, PySem.W.keyToks, PySem.W.keyToksAll, List.cons_append, List.nil_append, List.cons.injEq, Sum.inr.injEq, true_and] at q
    obtain ⟨e1, e2⟩ := q
    obtain ⟨e3, e4⟩ := tokss_inj ts us r s h1 h2 e2
    rw [str_ext e1, e3]
    exact ⟨rfl, e4⟩
theorem tokss_inj : ∀ (ts us : List T) (r s : List (Int ⊕ List Nat)), Los ts 0 → Los us 0 → PySem.W.keyToksAll (encs ts) ++ r = PySem.W.keyToksAll (encs us) ++ s → ts = us ∧ r = s
  | [], [], _, _, _, _, q => ⟨rfl, by simpa [encs, PySem.W.keyToksAll] using q⟩
  | [], _ :: _, _, _, _, _, q => by simp [encs, PySem.W.keyToksAll] at q
  | _ :: _, [], _, _, _, _, q => by simp [encs, PySem.W.keyToksAll] at q
  | t :: ts, u :: us, r, s, h1, h2, q => by
    simp only [Los] at h1 h2
    simp only [encs, PySem.W.keyToksAll, List.cons_append, List.cons.injEq, true_and, List.append_assoc] at q
    obtain ⟨e1, e2⟩ := toks_inj t u _ _ h1.1 h2.1 q
    obtain ⟨e3, e4⟩ := tokss_inj ts us _ _ h1.2 h2.2 e2
    rw [e1, e3]
    exact ⟨rfl, e4⟩
end
end Orl
set_option Elab.async false
set_option linter.all false
set_option maxRecDepth 100000
set_option maxHeartbeats 4000000
/-! M2: substitution, numbering, rows, levels. -/
namespace Orl
open PySem

mutual
def sub (s : Nat → T) : T → T
  | .v n => s n
  | .a f ts => .a f (subs s ts)
def subs (s : Nat → T) : List T → List T
  | [] => []
  | t :: r => sub s t :: subs s r
end
theorem subs_map (s : Nat → T) : ∀ ts, subs s ts = ts.map (sub s)
  | [] => rfl
  | t :: r => by rw [subs, subs_map s r]; rfl
/-- a variable noted -/
def add1 (us : List Nat) (n : Nat) : List Nat := if n ∈ us then us else us ++ [n]
mutual
/-- the variables of a term noted -/
def vadd : List Nat → T → List Nat
  | us, .v n => add1 us n
  | us, .a _ ts => vadds us ts
def vadds : List Nat → List T → List Nat
  | us, [] => us
  | us, t :: r => vadds (vadd us t) r
end
mutual
def Occ (n : Nat) : T → Prop
  | .v k => n = k
  | .a _ ts => Occs n ts
def Occs (n : Nat) : List T → Prop
  | [] => False
  | t :: r => Occ n t ∨ Occs n r
end
theorem mem_add1 {us : List Nat} {n m : Nat} : m ∈ add1 us n ↔ m ∈ us ∨ m = n := by
  unfold add1
  split
  · rename_i h
    constructor
    · exact .inl
    · rintro (h' | rfl)
      · exact h'
      · exact h
  · simp
mutual
theorem mem_vadd {m : Nat} : ∀ (us : List Nat) (t : T), m ∈ vadd us t ↔ m ∈ us ∨ Occ m t
  | us, .v n => by simp [vadd, Occ, mem_add1]
  | us, .a _ ts => by simp only [vadd, Occ]; exact mem_vadds us ts
theorem mem_vadds {m : Nat} : ∀ (us : List Nat) (ts : List T), m ∈ vadds us ts ↔ m ∈ us ∨ Occs m ts
  | us, [] => by simp [vadds, Occs]
  | us, t :: r => by
    simp only [vadds, Occs]
    rw [mem_vadds (vadd us t) r, mem_vadd us t, or_assoc]
end
theorem nodup_add1 {us : List Nat} {n : Nat} (h : us.Nodup) : (add1 us n).Nodup := by
  unfold add1
  split
  · exact h
  · rename_i q
    rw [List.nodup_append]
    refine ⟨h, by simp, ?_⟩
    intro a ha b hb
    have : b = n := by simpa using hb
    subst this
    rintro rfl
    exact q ha
mutual
theorem nodup_vadd : ∀ (us : List Nat) (t : T), us.Nodup → (vadd us t).Nodup
  | us, .v n, h => by simp only [vadd]; exact nodup_add1 h
  | us, .a _ ts, h => by simp only [vadd]; exact nodup_vadds us ts h
theorem nodup_vadds : ∀ (us : List Nat) (ts : List T), us.Nodup → (vadds us ts).Nodup
  | us, [], h => by simp only [vadds]; exact h
  | us, t :: r, h => by simp only [vadds]; exact nodup_vadds _ r (nodup_vadd us t h)
end
mutual
theorem sub_congr {s s' : Nat → T} : ∀ (t : T), (∀ n, Occ n t → s n = s' n) → sub s t = sub s' t
  | .v n, h => by simp only [sub]; exact h n (by simp [Occ])
  | .a f ts, h => by simp only [sub]; rw [subs_congr ts fun n q => h n (by simp only [Occ]; exact q)]
theorem subs_congr {s s' : Nat → T} : ∀ (ts : List T), (∀ n, Occs n ts → s n = s' n) → subs s ts = subs s' ts
  | [], _ => rfl
  | t :: r, h => by
    simp only [subs]
    rw [sub_congr t fun n q => h n (by simp only [Occs]; exact .inl q), subs_congr r fun n q => h n (by simp only [Occs]; exact .inr q)]
end
mutual
theorem sub_sub (s s' : Nat → T) : ∀ (t : T), sub s (sub s' t) = sub (fun n => sub s (s' n)) t
  | .v n => by simp only [sub]
  | .a f ts => by simp only [sub]; rw [subs_subs s s' ts]
theorem subs_subs (s s' : Nat → T) : ∀ (ts : List T), subs s (subs s' ts) = subs (fun n => sub s (s' n)) ts
  | [] => rfl
  | t :: r => by simp only [subs]; rw [sub_sub s s' t, subs_subs s s' r]
end
mutual
theorem sub_v : ∀ (t : T), sub T.v t = t
  | .v n => by simp only [sub]
  | .a f ts => by simp only [sub]; rw [subs_v ts]
theorem subs_v : ∀ (ts : List T), subs T.v ts = ts
  | [] => rfl
  | t :: r => by simp only [subs]; rw [sub_v t, subs_v r]
end
mutual
theorem occ_sub {s : Nat → T} {m : Nat} : ∀ (t : T), Occ m (sub s t) ↔ ∃ n, Occ n t ∧ Occ m (s n)
  | .v k => by simp [sub, Occ]
  | .a f ts => by simp only [sub, Occ]; exact occs_subs ts
theorem occs_subs {s : Nat → T} {m : Nat} : ∀ (ts : List T), Occs m (subs s ts) ↔ ∃ n, Occs n ts ∧ Occ m (s n)
  | [] => by simp [subs, Occs]
  | t :: r => by
    simp only [subs, Occs]
    rw [occ_sub t, occs_subs r]
    constructor
    · rintro (⟨n, h1, h2⟩ | ⟨n, h1, h2⟩)
      · exact ⟨n, .inl h1, h2⟩
      · exact ⟨n, .inr h1, h2⟩
    · rintro ⟨n, h1 | h1, h2⟩
      · exact .inl ⟨n, h1, h2⟩
      · exact .inr ⟨n, h1, h2⟩
end
mutual
theorem fit_sub {s : Nat → T} {d e : Nat} : ∀ (t : T), Fit t d → (∀ n, Occ n t → Fit (s n) e) → ∀ k, d + e ≤ k → Fit (sub s t) k
  | .v n, _, h, k, l => by simp only [sub]; exact (h n (by simp [Occ])).up (by omega)
  | .a f ts, h, q, k, l => by
    simp only [Fit] at h
    simp only [sub, Fit]
    refine ⟨by omega, h.2.1, ?_, fits_subs (d := d - 1) ts h.2.2.2 (fun n z => q n (by simp only [Occ]; exact z)) (k - 1) (by omega)⟩
    rw [subs_map, List.length_map]
    exact h.2.2.1
theorem fits_subs {s : Nat → T} {d e : Nat} : ∀ (ts : List T), Fits ts d → (∀ n, Occs n ts → Fit (s n) e) → ∀ k, d + e ≤ k → Fits (subs s ts) k
  | [], _, _, _, _ => by simp [subs, Fits]
  | t :: r, h, q, k, l => by
    simp only [Fits] at h
    simp only [subs, Fits]
    exact ⟨fit_sub t h.1 (fun n z => q n (by simp only [Occs]; exact .inl z)) k l, fits_subs r h.2 (fun n z => q n (by simp only [Occs]; exact .inr z)) k l⟩
end
mutual
theorem lo_iff {n : Nat} : ∀ (t : T), Lo t n ↔ ∀ m, Occ m t → m < n
  | .v k => by simp [Lo, Occ]
  | .a f ts => by simp only [Lo, Occ]; exact los_occ ts
theorem los_occ {n : Nat} : ∀ (ts : List T), Los ts n ↔ ∀ m, Occs m ts → m < n
  | [] => by simp [Los, Occs]
  | t :: r => by
    simp only [Los, Occs]
    rw [lo_iff t, los_occ r]
    constructor
    · rintro ⟨h1, h2⟩ m (q | q)
      · exact h1 m q
      · exact h2 m q
    · intro h
      exact ⟨fun m q => h m (.inl q), fun m q => h m (.inr q)⟩
end
theorem occs_iff {n : Nat} : ∀ {ts : List T}, Occs n ts ↔ ∃ t ∈ ts, Occ n t
  | [] => by simp [Occs]
  | t :: r => by simp [Occs, occs_iff (ts := r)]

/-! ### numbering -/
def vars (ts : List T) : List Nat := vadds [] ts
theorem mem_vars {m : Nat} {ts : List T} : m ∈ vars ts ↔ Occs m ts := by
  unfold vars
  rw [mem_vadds]
  simp
theorem nodup_vars (ts : List T) : (vars ts).Nodup := nodup_vadds [] ts List.nodup_nil
def ren (g : Nat → Nat) : Nat → T := fun n => .v (g n)
def numb (ts : List T) : List T := subs (ren fun n => (vars ts).idxOf n) ts
theorem add1_map {g : Nat → Nat} {us : List Nat} {n : Nat} (h : ∀ a b, a ∈ add1 us n → b ∈ add1 us n → g a = g b → a = b) : add1 (us.map g) (g n) = (add1 us n).map g := by
  unfold add1
  by_cases hn : n ∈ us
  · rw [if_pos hn, if_pos (List.mem_map_of_mem hn)]
  · have : g n ∉ us.map g := by
      intro z
      obtain ⟨m, hm, e⟩ := List.mem_map.mp z
      have := h m n (mem_add1.mpr (.inl hm)) (mem_add1.mpr (.inr rfl)) e
      exact hn (this ▸ hm)
    rw [if_neg hn, if_neg this]
    simp
mutual
theorem vadd_map {g : Nat → Nat} : ∀ (us : List Nat) (t : T), (∀ a b, a ∈ vadd us t → b ∈ vadd us t → g a = g b → a = b) → vadd (us.map g) (sub (ren g) t) = (vadd us t).map g
  | us, .v n, h => by
    simp only [sub, ren, vadd] at h ⊢
    exact add1_map h
  | us, .a _ ts, h => by
    simp only [sub, vadd] at h ⊢
    exact vadds_map us ts h
theorem vadds_map {g : Nat → Nat} : ∀ (us : List Nat) (ts : List T), (∀ a b, a ∈ vadds us ts → b ∈ vadds us ts → g a = g b → a = b) → vadds (us.map g) (subs (ren g) ts) = (vadds us ts).map g
  | us, [], _ => rfl
  | us, t :: r, h => by
    simp only [subs, vadds] at h ⊢
    have up : ∀ m, m ∈ vadd us t → m ∈ vadds (vadd us t) r := fun m q => (mem_vadds _ _).mpr (.inl q)
    rw [vadd_map us t fun a b ha hb => h a b (up a ha) (up b hb)]
    exact vadds_map _ r h
end
theorem idx_inj {us : List Nat} {a b : Nat} (ha : a ∈ us) (e : us.idxOf a = us.idxOf b) : a = b := by
  have h1 : us[us.idxOf a]? = some a := by
    rw [List.getElem?_eq_getElem (List.idxOf_lt_length_iff.mpr ha)]
    simp
  by_cases hb : b ∈ us
  · have h2 : us[us.idxOf b]? = some b := by
      rw [List.getElem?_eq_getElem (List.idxOf_lt_length_iff.mpr hb)]
      simp
    rw [e] at h1
    rw [h1] at h2
    exact Option.some.inj h2
  · have l1 := List.idxOf_lt_length_iff.mpr ha
    have l2 : us.idxOf b = us.length := by
      have := (not_congr List.idxOf_lt_length_iff).mpr hb
      have := List.idxOf_le_length (l := us) (a := b)
      omega
    omega
theorem map_idx {us : List Nat} (h : us.Nodup) : us.map (fun n => us.idxOf n) = List.range us.length := by
  apply List.ext_getElem
  · simp
  · intro i h1 h2
    simp only [List.getElem_map, List.getElem_range]
    exact List.Nodup.idxOf_getElem h i _
theorem vars_numb (ts : List T) : vars (numb ts) = List.range (vars ts).length := by
  have h := vadds_map (g := fun n => (vars ts).idxOf n) [] ts (fun a b ha hb e => idx_inj (show a ∈ vars ts from ha) e)
  rw [List.map_nil] at h
  show vadds [] (subs _ ts) = _
  rw [h]
  exact map_idx (nodup_vars ts)
/-- renamed by an injective renaming and numbered again: as before -/
theorem numb_ren {g : Nat → Nat} {ts : List T} (h : ∀ a b, Occs a ts → Occs b ts → g a = g b → a = b) : numb (subs (ren g) ts) = numb ts := by
  have hv : vars (subs (ren g) ts) = (vars ts).map g := by
    have := vadds_map (g := g) [] ts (fun a b ha hb e => h a b (mem_vars.mp ha) (mem_vars.mp hb) e)
    rw [List.map_nil] at this
    exact this
  unfold numb
  rw [subs_subs]
  refine subs_congr ts fun n hn => ?_
  simp only [ren, sub, hv]
  congr 1
  have hm : n ∈ vars ts := mem_vars.mpr hn
  have l := List.idxOf_lt_length_iff.mpr hm
  have e1 : ((vars ts).map g)[(vars ts).idxOf n]? = some (g n) := by
    rw [List.getElem?_map, List.getElem?_eq_getElem l]
    simp
  have nd : ((vars ts).map g).Nodup := by
    rw [List.nodup_iff_pairwise_ne, List.pairwise_map]
    refine (List.nodup_iff_pairwise_ne.mp (nodup_vars ts)).imp_of_mem ?_
    intro a b ha hb hne e
    exact hne (h a b (mem_vars.mp ha) (mem_vars.mp hb) e)
  obtain ⟨l2, e2⟩ := List.getElem?_eq_some_iff.mp e1
  rw [← e2]
  exact List.Nodup.idxOf_getElem nd _ l2
theorem numb_numb (ts : List T) : numb (numb ts) = numb ts :=
  numb_ren (g := fun n => (vars ts).idxOf n) fun a b ha _ e => idx_inj (mem_vars.mpr ha) e

/-! ### rules -/
structure Rl where
  prem : List T
  con : T
/-- numbered, at most three variables, atoms of a low depth, at most three premises -/
structure Good (r : Rl) : Prop where
  num : numb (r.con :: r.prem) = r.con :: r.prem
  few : (vars (r.con :: r.prem)).length ≤ 3
  fit : Fits (r.con :: r.prem) 3
  pre : r.prem.length ≤ 3
def vc (r : Rl) : Nat := (vars (r.con :: r.prem)).length
def rfl' : Rl := ⟨[], .a "=" [.v 0, .v 0]⟩
theorem Good.lo {r : Rl} (g : Good r) : Los (r.con :: r.prem) (vc r) := by
  rw [los_occ]
  intro m hm
  have h := vars_numb (r.con :: r.prem)
  rw [g.num] at h
  have : m ∈ vars (r.con :: r.prem) := mem_vars.mpr hm
  rw [h] at this
  exact List.mem_range.mp this
theorem Good.rfl' : Good rfl' where
  num := by decide +kernel
  few := by decide +kernel
  fit := by
    refine ⟨⟨by decide, ⟨by decide +kernel, by decide +kernel⟩, by decide, trivial, trivial, trivial⟩, trivial⟩
  pre := by decide
theorem vc_rfl : vc rfl' = 1 := by decide +kernel

/-! ### rows -/
def rows : Nat → List T → List (List T)
  | 0, _ => [[]]
  | n + 1, ts => (rows n ts).flatMap fun r => ts.map fun t => r ++ [t]
theorem mem_rows : ∀ {n : Nat} {ts r : List T}, r ∈ rows n ts ↔ r.length = n ∧ ∀ t ∈ r, t ∈ ts
  | 0, ts, r => by
    simp only [rows, List.mem_singleton]
    constructor
    · rintro rfl
      simp
    · rintro ⟨h, _⟩
      exact List.length_eq_zero_iff.mp h
  | n + 1, ts, r => by
    simp only [rows, List.mem_flatMap, List.mem_map]
    constructor
    · rintro ⟨q, hq, t, ht, rfl⟩
      obtain ⟨h1, h2⟩ := mem_rows.mp hq
      refine ⟨by simp [h1], ?_⟩
      intro u hu
      rcases List.mem_append.mp hu with hu | hu
      · exact h2 u hu
      · have : u = t := by simpa using hu
        rw [this]
        exact ht
    · rintro ⟨h1, h2⟩
      have hne : r ≠ [] := by
        rintro rfl
        simp at h1
      refine ⟨r.dropLast, mem_rows.mpr ⟨by simp [h1], fun t ht => h2 t (List.dropLast_subset r ht)⟩, r.getLast hne, h2 _ (List.getLast_mem hne), List.dropLast_concat_getLast hne⟩
theorem len_rows : ∀ (n : Nat) (ts : List T), (rows n ts).length = ts.length ^ n
  | 0, _ => rfl
  | n + 1, ts => by
    simp only [rows, List.length_flatMap, List.length_map]
    have : ∀ l : List (List T), (l.map fun _ => ts.length).sum = l.length * ts.length := by
      intro l
      induction l with
      | nil => simp
      | cons x l ih => simp [ih, Nat.succ_mul, Nat.add_comm]
    rw [this, len_rows n ts, Nat.pow_succ]
/-- what a row puts for the variables -/
def at' (row : List T) : Nat → T := fun n => row.getD n (.v n)
abbrev Inst := List T × T
def inst (r : Rl) (row : List T) : Inst := (subs (at' row) r.prem, sub (at' row) r.con)
def IsI (rs : List Rl) (ts : List T) (i : Inst) : Prop := ∃ r ∈ rs, ∃ row, row.length = vc r ∧ (∀ t ∈ row, t ∈ ts) ∧ i = inst r row
/-- the facts of height h -/
def Lev (P : Inst → Prop) : Nat → T → Prop
  | 0, _ => False
  | h + 1, f => ∃ i, P i ∧ i.2 = f ∧ ∀ p ∈ i.1, Lev P h p
def Fc (rs : List Rl) (ts : List T) (h : Nat) (f : T) : Prop := Lev (IsI (rfl' :: rs) ts) h f
theorem Lev.mono {P P' : Inst → Prop} (hp : ∀ i, P i → P' i) : ∀ {h : Nat} {f : T}, Lev P h f → Lev P' h f
  | 0, _, h => h.elim
  | h + 1, f, ⟨i, h1, h2, h3⟩ => ⟨i, hp i h1, h2, fun p q => Lev.mono hp (h3 p q)⟩
theorem Lev.up {P : Inst → Prop} : ∀ {h : Nat} {f : T}, Lev P h f → Lev P (h + 1) f
  | 0, _, h => h.elim
  | h + 1, f, ⟨i, h1, h2, h3⟩ => ⟨i, h1, h2, fun p q => Lev.up (h3 p q)⟩
theorem IsI.mono {rs rs' : List Rl} {ts ts' : List T} (h1 : ∀ r ∈ rs, r ∈ rs') (h2 : ∀ t ∈ ts, t ∈ ts') {i : Inst} (h : IsI rs ts i) : IsI rs' ts' i := by
  obtain ⟨r, hr, row, a, b, c⟩ := h
  exact ⟨r, h1 r hr, row, a, fun t ht => h2 t (b t ht), c⟩
theorem Fc.mono {rs rs' : List Rl} {ts ts' : List T} (h1 : ∀ r ∈ rs, r ∈ rs') (h2 : ∀ t ∈ ts, t ∈ ts') {h : Nat} {f : T} (q : Fc rs ts h f) : Fc rs' ts' h f :=
  Lev.mono (fun i z => IsI.mono (fun r hr => by
    rcases List.mem_cons.mp hr with e | e
    · exact List.mem_cons.mpr (.inl e)
    · exact List.mem_cons.mpr (.inr (h1 r e))) h2 z) q
theorem Fc.up {rs : List Rl} {ts : List T} {h : Nat} {f : T} (q : Fc rs ts h f) : Fc rs ts (h + 1) f := Lev.up q
/-- terms of the universe -/
def Gr (d : Nat) (t : T) : Prop := Fit t d ∧ Lo t 0
theorem sub_ground {d : Nat} {row : List T} {n : Nat} (hl : row.length = n) (hr : ∀ t ∈ row, Gr d t) {t : T} {e : Nat} (hf : Fit t e) (ho : Lo t n) : Gr (e + d) (sub (at' row) t) := by
  have at_ : ∀ m, Occ m t → at' row m ∈ row := by
    intro m hm
    have : m < row.length := by rw [hl]; exact (lo_iff t).mp ho m hm
    unfold at'
    rw [List.getD_eq_getElem?_getD, List.getElem?_eq_getElem this]
    exact List.getElem_mem this
  refine ⟨fit_sub t hf (fun m hm => (hr _ (at_ m hm)).1) _ (Nat.le_refl _), ?_⟩
  rw [lo_iff]
  intro m hm
  obtain ⟨n', h1, h2⟩ := (occ_sub t).mp hm
  exact absurd ((lo_iff _).mp (hr _ (at_ n' h1)).2 m h2) (Nat.not_lt_zero _)
theorem inst_ground {d : Nat} {rs : List Rl} {ts : List T} (hg : ∀ r ∈ rs, Good r) (ht : ∀ t ∈ ts, Gr d t) {i : Inst} (h : IsI rs ts i) : Gr (3 + d) i.2 ∧ ∀ p ∈ i.1, Gr (3 + d) p := by
  obtain ⟨r, hr, row, hl, hm, rfl⟩ := h
  have g := hg r hr
  have lo := g.lo
  have fit := g.fit
  simp only [Los, Fits] at lo fit
  have hrow : ∀ t ∈ row, Gr d t := fun t h => ht t (hm t h)
  refine ⟨sub_ground hl hrow fit.1 lo.1, ?_⟩
  intro p hp
  simp only [inst, subs_map] at hp
  obtain ⟨q, hq, rfl⟩ := List.mem_map.mp hp
  exact sub_ground hl hrow (fits_iff.mp fit.2 q hq) (los_iff.mp lo.2 q hq)
theorem Fc.ground {d : Nat} {rs : List Rl} {ts : List T} (hg : ∀ r ∈ rs, Good r) (ht : ∀ t ∈ ts, Gr d t) {h : Nat} {f : T} (q : Fc rs ts h f) : Gr (3 + d) f := by
  cases h with
  | zero => exact q.elim
  | succ h =>
    obtain ⟨i, h1, rfl, _⟩ := q
    exact (inst_ground (rs := rfl' :: rs) (fun r hr => by
      rcases List.mem_cons.mp hr with e | e
      · rw [e]; exact Good.rfl'
      · exact hg r e) ht h1).1

/-! ### the rounds -/
/-- one round: the facts of the usable instances are entered -/
def enter (fs : List T) (f : T) : List T := if f ∈ fs then fs else fs ++ [f]
theorem mem_enter {fs : List T} {f g : T} : g ∈ enter fs f ↔ g ∈ fs ∨ g = f := by
  unfold enter
  split
  · rename_i h
    constructor
    · exact .inl
    · rintro (h' | rfl)
      · exact h'
      · exact h
  · simp
theorem nodup_enter {fs : List T} {f : T} (h : fs.Nodup) : (enter fs f).Nodup := by
  unfold enter
  split
  · exact h
  · rename_i q
    rw [List.nodup_append]
    refine ⟨h, by simp, ?_⟩
    intro a ha b hb
    have : b = f := by simpa using hb
    subst this
    rintro rfl
    exact q ha
/-- fs: the facts of height h, each once -/
structure Is (P : Inst → Prop) (h : Nat) (fs : List T) : Prop where
  nd : fs.Nodup
  iff : ∀ f, f ∈ fs ↔ Lev P h f
theorem Is.zero {P : Inst → Prop} : Is P 0 [] := ⟨List.nodup_nil, fun f => by simp [Lev]⟩
/-- behind a round over the instances us, which are usable ones and hold all whose facts are new -/
theorem Is.round {P : Inst → Prop} {h : Nat} {fs gs : List T} {us : List Inst} (I : Is P h fs) (nd : gs.Nodup) (hg : ∀ g, g ∈ gs ↔ g ∈ fs ∨ ∃ i ∈ us, i.2 = g)
    (h1 : ∀ i ∈ us, P i ∧ ∀ p ∈ i.1, p ∈ fs) (h2 : ∀ i, P i → (∀ p ∈ i.1, p ∈ fs) → i.2 ∈ fs ∨ i ∈ us) : Is P (h + 1) gs := by
  refine ⟨nd, fun f => ?_⟩
  rw [hg]
  constructor
  · rintro (q | ⟨i, hi, rfl⟩)
    · exact Lev.up ((I.iff f).mp q)
    · exact ⟨i, (h1 i hi).1, rfl, fun p hp => (I.iff p).mp ((h1 i hi).2 p hp)⟩
  · rintro ⟨i, hi, rfl, hp⟩
    rcases h2 i hi (fun p q => (I.iff p).mpr (hp p q)) with z | z
    · exact .inl z
    · exact .inr ⟨i, z, rfl⟩

/-! ### sorted -/
abbrev le' : T → T → Bool := PySem.W.dataLe false enc
def srt (fs : List T) : List T := fs.mergeSort le'
theorem le_tot : PySem.W.TotalLe le' := PySem.W.sortLe_total _ _ _
theorem le_anti {a b : T} (ha : Lo a 0) (hb : Lo b 0) (h1 : le' a b = true) (h2 : le' b a = true) : a = b := by
  have e1 : PyProof.Rows.lexLt PyProof.Rows.itemOrd (PySem.W.keyToks (enc b)) (PySem.W.keyToks (enc a)) = false := by
    have q : (!PyProof.Rows.lexLt PyProof.Rows.itemOrd (PySem.W.keyToks (enc b)) (PySem.W.keyToks (enc a))) = true := h1
    simpa using q
  have e2 : PyProof.Rows.lexLt PyProof.Rows.itemOrd (PySem.W.keyToks (enc a)) (PySem.W.keyToks (enc b)) = false := by
    have q : (!PyProof.Rows.lexLt PyProof.Rows.itemOrd (PySem.W.keyToks (enc a)) (PySem.W.keyToks (enc b))) = true := h2
    simpa using q
  have e : PySem.W.keyToks (enc a) = PySem.W.keyToks (enc b) := (PyProof.Rows.listOrd PyProof.Rows.itemOrd).total _ _ e2 e1
  exact (toks_inj a b [] [] ha hb (by rw [e])).1
/-- two lists of the same facts, each fact once, are sorted to one list -/
theorem srt_same {fs gs : List T} (h1 : fs.Nodup) (h2 : gs.Nodup) (h : ∀ f, f ∈ fs ↔ f ∈ gs) (hg : ∀ f ∈ fs, Lo f 0) : srt fs = srt gs := by
  have p : fs.Perm gs := (List.perm_ext_iff_of_nodup h1 h2).mpr h
  have q : (srt fs).Perm (srt gs) := (List.mergeSort_perm _ _).trans (p.trans (List.mergeSort_perm _ _).symm)
  refine List.Perm.eq_of_pairwise (le := fun a b => le' a b = true) ?_ (PySem.W.sort_pairwise le_tot fs) (PySem.W.sort_pairwise le_tot gs) q
  intro a b ha hb
  exact le_anti (hg a ((List.mergeSort_perm _ _).mem_iff.mp ha)) (hg b ((h b).mpr ((List.mergeSort_perm _ _).mem_iff.mp hb)))
theorem mem_srt {fs : List T} {f : T} : f ∈ srt fs ↔ f ∈ fs := (List.mergeSort_perm _ _).mem_iff
/-- the one list that facts_within is to return -/
structure Facts (rs : List Rl) (ts : List T) (h : Nat) (L : List T) : Prop where
  ex : ∃ fs, Is (IsI (rfl' :: rs) ts) h fs ∧ L = srt fs
theorem Facts.mem {rs : List Rl} {ts : List T} {h : Nat} {L : List T} (F : Facts rs ts h L) {f : T} : f ∈ L ↔ Fc rs ts h f := by
  obtain ⟨fs, I, rfl⟩ := F.ex
  rw [mem_srt, I.iff]
  rfl
theorem Facts.same {rs rs' : List Rl} {ts ts' : List T} {h d : Nat} {L L' : List T} (F : Facts rs ts h L) (F' : Facts rs' ts' h L') (hg : ∀ r ∈ rs, Good r) (ht : ∀ t ∈ ts, Gr d t)
    (h1 : ∀ r, r ∈ rs ↔ r ∈ rs') (h2 : ∀ t, t ∈ ts ↔ t ∈ ts') : L = L' := by
  obtain ⟨fs, I, rfl⟩ := F.ex
  obtain ⟨gs, J, rfl⟩ := F'.ex
  have key : ∀ f, Fc rs ts h f ↔ Fc rs' ts' h f := fun f => ⟨Fc.mono (fun r => (h1 r).mp) fun t => (h2 t).mp, Fc.mono (fun r => (h1 r).mpr) fun t => (h2 t).mpr⟩
  refine srt_same I.nd J.nd (fun f => ?_) fun f hf => ?_
  · rw [I.iff, J.iff]
    exact key f
  · exact (Fc.ground hg ht ((I.iff f).mp hf)).2
end Orl
set_option Elab.async false
set_option linter.all false
set_option maxRecDepth 100000
set_option maxHeartbeats 4000000
/-! D1: data in the abstract heap, what calls leave, readings in short. -/
namespace Orl
open PySem PySem.Spec PyProof.Rows L2

/-! ### what stays -/
abbrev Ex := Evl.Ex
/-- all but the object at p stays -/
def Xb (p : Addr) (H H' : Hp) : Prop := ∀ b o, b ≠ p → H b = some o → H' b = some o
theorem Xb.refl (p : Addr) (H : Hp) : Xb p H H := fun _ _ _ h => h
theorem Xb.trans {p : Addr} {H H1 H2 : Hp} (a : Xb p H H1) (b : Xb p H1 H2) : Xb p H H2 := fun x o n h => b x o n (a x o n h)
theorem Xb.upd {p : Addr} {H : Hp} {o : HO} : Xb p H (upd H p o) := fun b u n h => by rw [upd_ne n]; exact h
theorem Xb.mut {p : Addr} {H H' : Hp} {o : HO} (e : Xb p H H') : Xb p H (L2.upd H' p o) := fun b u n h => by rw [upd_ne n]; exact e b u n h
theorem Xb.ex {p : Addr} {H H' : Hp} (e : Ex H H') : Xb p H H' := fun b o _ h => e b o h
/-- another object that H did not know may change -/
theorem Xb.mutN {p q : Addr} {H H' : Hp} {o : HO} (e : Xb p H H') (h : H q = none) : Xb p H (L2.upd H' q o) := fun b u n hb => by
  rw [upd_ne (ne_of_none hb h)]
  exact e b u n hb
theorem Ex.mutN {q : Addr} {H H' : Hp} {o : HO} (e : Ex H H') (h : H q = none) : Ex H (L2.upd H' q o) := Evl.Ex.mut e h
theorem Ex.new {q : Addr} {H : Hp} {o : HO} (h : H q = none) : Ex H (L2.upd H q o) := Evl.Ex.new h
theorem Ex.refl (H : Hp) : Ex H H := Evl.Ex.refl H
theorem Ex.trans {H H1 H2 : Hp} (a : Ex H H1) (b : Ex H1 H2) : Ex H H2 := Evl.Ex.trans a b
/-- a new object that changed is no change to what stood -/
theorem Ex.ofXb {p : Addr} {H H' : Hp} (e : Xb p H H') (h : H p = none) : Ex H H' := fun b o hb => e b o (ne_of_none hb h) hb
theorem ne_new {H : Hp} {a p : Addr} {o : HO} (h : H a = some o) (hp : H p = none) : a ≠ p := ne_of_none h hp
theorem back {H H' : Hp} (e : Ex H H') {p : Addr} (h : H' p = none) : H p = none := Evl.fresh_back e h
theorem backX {q : Addr} {H H' : Hp} (e : Xb q H H') {p : Addr} (n : p ≠ q) (h : H' p = none) : H p = none := by
  cases z : H p with
  | none => rfl
  | some o =>
    rw [e p o n z] at h
    cases h
/-- tuples stay -/
def Tk (K : PySem.W.Frag) (H H' : Hp) : Prop := ∀ a xs, SqT K H a xs → SqT K H' a xs
theorem Tk.ex {K : PySem.W.Frag} {H H' : Hp} (e : Ex H H') : Tk K H H' := fun _ _ h => Evl.ex_t e h
theorem Tk.refl {K : PySem.W.Frag} {H : Hp} : Tk K H H := fun _ _ h => h
theorem Tk.trans {K : PySem.W.Frag} {H H1 H2 : Hp} (a : Tk K H H1) (b : Tk K H1 H2) : Tk K H H2 := fun x xs h => b x xs (a x xs h)
def isTup : HO → Bool
  | .tup _ => true
  | .frz _ (.tup _) => true
  | _ => false
theorem Tk.xb {K : PySem.W.Frag} {p : Addr} {H H' : Hp} {o : HO} (hp : H p = some o) (no : isTup o = false) (e : Xb p H H') : Tk K H H' := fun a xs h => by
  rcases h with (h | ⟨u, h⟩) | h
  · refine .inl (.inl (e a _ ?_ h))
    rintro rfl
    rw [hp] at h
    cases h
    cases no
  · refine .inl (.inr ⟨u, e a _ ?_ h⟩)
    rintro rfl
    rw [hp] at h
    cases h
    cases no
  · exact .inr h
theorem Tk.extN {K : PySem.W.Frag} {H H' : Hp} (e : LamX.ExtN H H') : Tk K H H' := fun _ _ h => extN_t e h
theorem Tk.upd {K : PySem.W.Frag} {H : Hp} {p : Addr} {o : HO} (h : H p = none) : Tk K H (L2.upd H p o) := Tk.ex (Ex.new h)

/-! ### terms -/
abbrev TA (K : PySem.W.Frag) (H : Hp) (v : V) (t : T) : Prop := Dp K H v (enc t)
abbrev TsA (K : PySem.W.Frag) (H : Hp) (vs : List V) (ts : List T) : Prop := Paired (TA K H) vs ts
theorem dpAll_iff {K : PySem.W.Frag} {H : Hp} : ∀ {vs : List V} {ts : List T}, DpAll K H vs (encs ts) ↔ TsA K H vs ts
  | [], [] => ⟨fun _ => .nil, fun _ => .nil⟩
  | [], _ :: _ => ⟨fun h => (by cases h), fun h => (by cases h)⟩
  | _ :: _, [] => ⟨fun h => (by cases h), fun h => (by cases h)⟩
  | v :: vs, t :: ts => by
    constructor
    · intro h
      cases h with
      | cons a b => exact .cons a (dpAll_iff.mp b)
    · intro h
      cases h with
      | cons a b => exact .cons a (dpAll_iff.mpr b)
theorem TA.var {K : PySem.W.Frag} {H : Hp} (n : Nat) : TA K H (.int n) (.v n) := .int n
theorem TA.app {K : PySem.W.Frag} {H : Hp} {a : Addr} {f : Str} {vs : List V} {ts : List T} (h : SqT K H a (.str f :: vs)) (q : TsA K H vs ts) : TA K H (.ref a) (.a f ts) :=
  .tup h (.cons (.str f) (dpAll_iff.mpr q))
theorem TA.inv_v {K : PySem.W.Frag} {H : Hp} {v : V} {n : Nat} (h : TA K H v (.v n)) : v = .int n := by
  have h' : Dp K H v (.int n) := h
  cases h'
  rfl
theorem TA.inv_a {K : PySem.W.Frag} {H : Hp} {v : V} {f : Str} {ts : List T} (h : TA K H v (.a f ts)) : ∃ a vs, v = .ref a ∧ SqT K H a (.str f :: vs) ∧ TsA K H vs ts := by
  have h' : Dp K H v (.tuple (.str f :: encs ts)) := h
  cases h' with
  | tup hs ha =>
    cases ha with
    | cons h1 h2 =>
      cases h1
      exact ⟨_, _, rfl, hs, dpAll_iff.mp h2⟩
mutual
theorem TA.mono {K : PySem.W.Frag} {H H' : Hp} (k : Tk K H H') : ∀ (t : T) (v : V), TA K H v t → TA K H' v t
  | .v n, v, h => by
    rw [h.inv_v]
    exact TA.var n
  | .a f ts, v, h => by
    obtain ⟨a, vs, rfl, hs, hq⟩ := h.inv_a
    exact TA.app (k _ _ hs) (TsA.mono k ts vs hq)
theorem TsA.mono {K : PySem.W.Frag} {H H' : Hp} (k : Tk K H H') : ∀ (ts : List T) (vs : List V), TsA K H vs ts → TsA K H' vs ts
  | [], _, h => by
    cases h
    exact .nil
  | t :: ts, _, h => by
    cases h with
    | cons a b => exact .cons (TA.mono k t _ a) (TsA.mono k ts _ b)
end
theorem TsA.up {K : PySem.W.Frag} {H H' : Hp} {ts : List T} {vs : List V} (h : TsA K H vs ts) (k : Tk K H H') : TsA K H' vs ts := TsA.mono k ts vs h
theorem TA.up {K : PySem.W.Frag} {H H' : Hp} {t : T} {v : V} (h : TA K H v t) (k : Tk K H H') : TA K H' v t := TA.mono k t v h

/-! ### paired lists -/
theorem Pa.len {α β : Type} {R : α → β → Prop} {xs : List α} {ys : List β} (h : Paired R xs ys) : xs.length = ys.length := Paired.length h
theorem Pa.get {α β : Type} {R : α → β → Prop} : ∀ {xs : List α} {ys : List β} {i : Nat} {y : β}, Paired R xs ys → ys[i]? = some y → ∃ x, xs[i]? = some x ∧ R x y
  | _, _, _, _, .nil, e => by simp at e
  | _, _, 0, _, .cons r _, e => by simp at e; subst e; exact ⟨_, rfl, r⟩
  | _, _, i + 1, y, .cons _ t, e => by
    obtain ⟨u, h1, h2⟩ := Pa.get (i := i) (y := y) t (by simpa using e)
    exact ⟨u, by simpa using h1, h2⟩
theorem Pa.get' {α β : Type} {R : α → β → Prop} : ∀ {xs : List α} {ys : List β} {i : Nat} {x : α}, Paired R xs ys → xs[i]? = some x → ∃ y, ys[i]? = some y ∧ R x y
  | _, _, _, _, .nil, e => by simp at e
  | _, _, 0, _, .cons r _, e => by simp at e; subst e; exact ⟨_, rfl, r⟩
  | _, _, i + 1, y, .cons _ t, e => by
    obtain ⟨u, h1, h2⟩ := Pa.get' (i := i) (x := y) t (by simpa using e)
    exact ⟨u, by simpa using h1, h2⟩
theorem Pa.app {α β : Type} {R : α → β → Prop} : ∀ {xs xs' : List α} {ys ys' : List β}, Paired R xs ys → Paired R xs' ys' → Paired R (xs ++ xs') (ys ++ ys')
  | _, _, _, _, .nil, s => s
  | _, _, _, _, .cons r t, s => .cons r (Pa.app t s)
theorem Pa.snoc {α β : Type} {R : α → β → Prop} {xs : List α} {ys : List β} {x : α} {y : β} (h : Paired R xs ys) (r : R x y) : Paired R (xs ++ [x]) (ys ++ [y]) := Pa.app h (.cons r .nil)
theorem Pa.imp {α β : Type} {R S : α → β → Prop} : ∀ {xs : List α} {ys : List β}, Paired R xs ys → (∀ x y, R x y → S x y) → Paired S xs ys
  | _, _, .nil, _ => .nil
  | _, _, .cons r t, f => .cons (f _ _ r) (Pa.imp t f)
theorem Pa.drop {α β : Type} {R : α → β → Prop} : ∀ {xs : List α} {ys : List β} (n : Nat), Paired R xs ys → Paired R (xs.drop n) (ys.drop n)
  | _, _, 0, h => h
  | _, _, _ + 1, .nil => .nil
  | _, _, n + 1, .cons _ t => Pa.drop n t
theorem Pa.take {α β : Type} {R : α → β → Prop} : ∀ {xs : List α} {ys : List β} (n : Nat), Paired R xs ys → Paired R (xs.take n) (ys.take n)
  | _, _, 0, _ => .nil
  | _, _, _ + 1, .nil => .nil
  | _, _, n + 1, .cons r t => .cons r (Pa.take n t)
theorem Pa.erase {α β : Type} {R : α → β → Prop} : ∀ {xs : List α} {ys : List β} (n : Nat), Paired R xs ys → Paired R (xs.eraseIdx n) (ys.eraseIdx n)
  | _, _, _, .nil => .nil
  | _, _, 0, .cons _ t => t
  | _, _, n + 1, .cons r t => .cons r (Pa.erase n t)
/-- an arrangement of the left list goes with one of the right -/
theorem Pa.perm {α β : Type} {R : α → β → Prop} {xs xs' : List α} (h : xs.Perm xs') : ∀ {ys : List β}, Paired R xs ys → ∃ ys', ys.Perm ys' ∧ Paired R xs' ys' := by
  induction h with
  | nil => intro ys p; cases p; exact ⟨[], .nil, .nil⟩
  | cons x _ ih =>
    intro ys p
    cases p with
    | cons r t =>
      obtain ⟨ys', h1, h2⟩ := ih t
      exact ⟨_, h1.cons _, .cons r h2⟩
  | swap x y l =>
    intro ys p
    cases p with
    | cons r t =>
      cases t with
      | cons r' t' => exact ⟨_, .swap _ _ _, .cons r' (.cons r t')⟩
  | trans _ _ ih1 ih2 =>
    intro ys p
    obtain ⟨ys', h1, h2⟩ := ih1 p
    obtain ⟨ys'', h3, h4⟩ := ih2 h2
    exact ⟨ys'', h1.trans h3, h4⟩

/-! ### sizes -/
theorem line : sizeLine = 16777216 := sizeLine_eq
theorem szl {n : Nat} (h : n ≤ 100000) : n ≤ sizeLine := by rw [line]; omega
theorem szs {n : Nat} (h : n < 100000) : n < sizeLine := by rw [line]; omega

/-! ### readings of some built-ins, by names -/
abbrev rLenS (K : PySem.W.Frag) : List V → Hp → VK → Prop := fun xs H Q => ∃ p ys, xs = [.ref p] ∧ (SqL K H p ys ∨ SqT K H p ys) ∧ Q (.int ys.length) H
abbrev rListOf (K : PySem.W.Frag) : List V → Hp → VK → Prop := fun xs H Q => ∃ p ys, xs = [.ref p] ∧ (SqL K H p ys ∨ SqT K H p ys) ∧ ∀ l, H l = none → Q (.ref l) (upd H l (.lst ys))
abbrev rTupOf (K : PySem.W.Frag) : List V → Hp → VK → Prop := fun xs H Q => ∃ p ys, xs = [.ref p] ∧ ((SqL K H p ys ∧ ∀ l, H l = none → Q (.ref l) (upd H l (.tup ys))) ∨ (SqT K H p ys ∧ Q (.ref p) H))
/-! ### isinstance -/
theorem isi_int {K : PySem.W.Frag} {H : Hp} {n : Int} {Q : VK} (q : Q (.bl true) H) : rIsi K [.int n, .ty "int"] H Q :=
  ⟨_, _, _, _, true, rfl, .ty "int", .base (.int n), kit_ty (by decide +kernel), q⟩
theorem tyx_tup {K : PySem.W.Frag} {H : Hp} {a : Addr} {xs : List V} (h : SqT K H a xs) : TyX K H (.ref a) (.type "tuple") := by
  rcases h with (h | ⟨o, h⟩) | ⟨o, its, n, h1, h2, _⟩
  · exact .base (.tup h)
  · exact .fTuple h
  · exact .kTuple h1 h2
theorem isi_tup_int {K : PySem.W.Frag} {H : Hp} {a : Addr} {xs : List V} {Q : VK} (h : SqT K H a xs) (q : Q (.bl false) H) : rIsi K [.ref a, .ty "int"] H Q :=
  ⟨_, _, _, _, false, rfl, .ty "int", tyx_tup h, kit_ty (by decide +kernel), q⟩
theorem isi_tup {K : PySem.W.Frag} {H : Hp} {a : Addr} {xs : List V} {Q : VK} (h : SqT K H a xs) (q : Q (.bl true) H) : rIsi K [.ref a, .ty "tuple"] H Q :=
  ⟨_, _, _, _, true, rfl, .ty "tuple", tyx_tup h, kit_ty (by decide +kernel), q⟩

/-! ### slices, sums of tuples -/
theorem cut_drop (xs : List V) (n : Nat) (h : n ≤ xs.length) : cutV xs (some (n : Int)) none = xs.drop n := by
  unfold cutV
  rw [HT.sIx_nat, HT.sIx_none, Nat.min_eq_left h]
  exact List.take_of_length_le (by rw [List.length_drop]; exact Nat.le_refl _)
theorem cut_take (xs : List V) (n : Nat) (h : n ≤ xs.length) : cutV xs none (some (n : Int)) = xs.take n := by
  unfold cutV
  rw [HT.sIx_nat, HT.sIx_none, Nat.min_eq_left h]
  rfl
/-- t[1:] of a tuple with one item at least -/
theorem sl_tail {K : PySem.W.Frag} {H : Hp} {a : Addr} {x : V} {xs : List V} {Q : VK} (h : SqT K H a (x :: xs)) (q : ∀ p, H p = none → Q (.ref p) (upd H p (.tup xs))) : rSlA K (.ref a) (some 1) none H Q := by
  refine ⟨a, x :: xs, rfl, h, ?_, ?_⟩
  · rintro ⟨h1, _⟩
    exact absurd (h1.symm.trans (HT.sIx_nat (x :: xs).length 0 1)) (by simp)
  · intro _ p hp
    have := cut_drop (x :: xs) 1 (by simp)
    rw [show ((1 : Nat) : Int) = 1 from rfl] at this
    rw [this]
    exact q p hp
/-- (x,) + t -/
theorem cat_cons {K : PySem.W.Frag} {H : Hp} {a b : Addr} {x : V} {xs : List V} {Q : VK} (ha : SqT K H a [x]) (hb : SqT K H b xs) (hz : xs.length ≤ 100000) (q : ∀ p H', Ex H H' → SqT K H' p (x :: xs) → Q (.ref p) H') : rCatA K (.ref a) (.ref b) H Q := by
  refine ⟨a, b, [x], xs, rfl, rfl, ha, hb, by rw [line]; simp; omega, (fun z => by cases z), ?_, ?_⟩
  · rintro _ rfl
    exact q a H (Ex.refl H) ha
  · intro _ _ p hp
    exact q p _ (Ex.new hp) (.inl (.inl upd_same))
theorem at0 {x : V} {xs : List V} : atI (x :: xs) 0 = some x := atI_nat (j := 0) rfl
theorem atN {xs : List V} {x : V} {i : Int} {j : Nat} (e : i = (j : Int)) (h : xs[j]? = some x) : atI xs i = some x := by rw [e]; exact atI_nat h

/-! ### comprehensions over a range into a dict -/
theorem dc_range {lo : Int} {n : Nat} {g : TG} {tt : TT} {tk tv : TE} {vs : List Nat} {σ : L2.St} {H1 : Hp} {D : Addr} {Qd : Hp → Prop} (Pv : Nat → Hp → Prop) (h0 : Pv 0 (upd H1 D (.dK [])))
    (hs : ∀ i H, i < n → Pv i H → g (.int (lo + i)) (wipe σ vs) H fun σ2 H2 => wipe σ2 vs = wipe σ vs ∧ tt σ2 H2 fun b H3 =>
      if b = true then tk σ2 H3 fun y H4 => tv σ2 H4 fun z H5 => ∃ kvs k, y = kV k ∧ H5 D = some (.dK kvs) ∧ kvs.length < sizeLine ∧ Pv (i + 1) (upd H5 D (.dK (putK kvs k z))) else Pv (i + 1) H3) (hd : ∀ H, Pv n H → Qd H) :
    ∃ W : Nat → Nat → Hp → Prop, (∃ m, W 0 m (upd H1 D (.dK []))) ∧ ∀ i m H, W i m H →
      ((Itr lo n).stop i H ∧ Qd H) ∨ ((Itr lo n).go i H ∧ ∃ Nx : Hp → Prop, (∀ H', Nx H' → ∃ m', m' < m ∧ W (i + 1) m' H') ∧ ∀ x H', (Itr lo n).yld i H x H' → g x (wipe σ vs) H' fun σ2 H2 => wipe σ2 vs = wipe σ vs ∧ tt σ2 H2 fun b H3 =>
        if b = true then tk σ2 H3 fun y H4 => tv σ2 H4 fun z H5 => ∃ kvs k, y = kV k ∧ H5 D = some (.dK kvs) ∧ kvs.length < sizeLine ∧ Nx (upd H5 D (.dK (putK kvs k z))) else Nx H3) := by
  refine ⟨fun i m H => i + m = n ∧ Pv i H, ⟨n, by simp, h0⟩, ?_⟩
  rintro i m H ⟨e, p⟩
  cases m with
  | zero =>
    obtain rfl : i = n := by omega
    exact .inl ⟨Nat.le_refl _, hd H p⟩
  | succ m =>
    refine .inr ⟨show i < n by omega, Pv (i + 1), fun H' p' => ⟨m, Nat.lt_succ_self _, by omega, p'⟩, ?_⟩
    rintro x H' ⟨rfl, rfl⟩
    exact hs i _ (by omega) p

/-! ### sorted of terms -/
section
variable {X : Cx}
def rSortedT (K : PySem.W.Frag) : List V → Hp → VK → Prop := fun xs H Q => ∃ (a : Addr) (vs : List V) (ts : List T) (d : Nat), xs = [V.ref a] ∧ SqL K H a vs ∧ TsA K H vs ts ∧ (∀ t ∈ ts, Gr d t) ∧ d ≤ 64 ∧
  ∀ (ws : List V) (p : Addr), TsA K H ws (srt ts) → H p = none → Q (.ref p) (upd H p (.lst ws))
theorem each_enc {S : Value → T → Prop} {R : V → T → Prop} : ∀ {us : List Value} {ds : List T}, PySem.W.EachIs S us ds → (∀ u d, S u d → ∃ v, RelV v u ∧ R v d) → ∃ vs, Vals vs us ∧ Paired R vs ds
  | _, _, .nil, _ => ⟨[], .nil, .nil⟩
  | _, _, .cons q t, f => by
    obtain ⟨v, r, z⟩ := f _ _ q
    obtain ⟨vs, rs, zs⟩ := each_enc t f
    exact ⟨v :: vs, .cons r rs, .cons z zs⟩
theorem enc_each {R : V → T → Prop} {S : Value → T → Prop} : ∀ {vs : List V} {us : List Value} {ds : List T}, Vals vs us → Paired R vs ds → (∀ v u d, RelV v u → R v d → S u d) → PySem.W.EachIs S us ds
  | _, _, _, .nil, .nil, _ => .nil
  | _, _, _, .cons r t, .cons q z, f => .cons (f _ _ _ r q) (enc_each t z f)
theorem call_sortedT (hu : X.A.units + 70 < cLine) : CallR X (.builtin "sorted") (rSortedT X.K) := by
  intro pins s σ H xs us Q I r h
  obtain ⟨a, vs, ts, d, rfl, hs, hp, hg, hd, q⟩ := h
  obtain rfl := Vals.ref1 r
  obtain ⟨its, rv, hl, hz⟩ := I.list hs
  have e1 : PySem.W.EachIs (fun u t => ∃ v, RelV v u ∧ TA X.K H v t) its ts := enc_each rv hp fun v u t r q => ⟨v, r, q⟩
  have e2 : PySem.W.EachIs (fun u t => ∃ as, Reads s.heap u (enc t) as) its ts := enc_each rv hp fun v u t r q => Dp.reads I (enc t) v u q r
  have hal : PySem.W.AllAlike (ts.map enc) := by
    intro x hx y hy
    obtain ⟨t, ht, rfl⟩ := List.mem_map.mp hx
    obtain ⟨u, hu, rfl⟩ := List.mem_map.mp hy
    exact enc_alike t u (hg t ht).2 (hg u hu).2
  have hso : PySem.W.Sortable (ts.map enc) := by
    refine .inl fun x hx => ?_
    obtain ⟨t, ht, rfl⟩ := List.mem_map.mp hx
    cases t with
    | v n => exact absurd (hg _ ht).2 (by simp [Lo])
    | a f us => exact ⟨.str f, encs us, rfl⟩
  refine PySem.W.sorted_data (enc := enc) hl.isList e1 e2 hal hso (by rw [← hp.length]; exact hz) (fun t ht => ?_) ?_
  · have := enc_depth t d (hg t ht).1
    show X.A.units + 2 + (enc t).depth < cLine
    omega
  intro out ho eo
  obtain ⟨ws, rw', zw⟩ := each_enc eo fun u t z => z
  obtain ⟨ep, he'⟩ := PyProof.Rows.sortedAll_at s.heap its (List.toArray out)
  have hlen : ws.length ≤ sizeLine := by rw [rw'.length, ho, ← hp.length]; exact hz
  exact ⟨.ref _, upd H (s.heap.objs.size + 1) (.lst ws), I.laid (t' := s.toks) (fun _ _ => PyProof.Rows.sortedAll_old) (Nat.le_succ _) ⟨hlen, out, ep, rw', he'⟩, rfl, q _ _ zw (I.hok.fresh (Nat.le_succ _))⟩
end
/-- repr of a ground term -/
theorem r_repr {K : PySem.W.Frag} {H : Hp} {a : Addr} {t : T} {Q : VK} (h : TA K H (.ref a) t) (hg : Gr 8 t) (q : Q (.str (key t)) H) : rRepr K [.ref a] H Q := by
  obtain ⟨h1, h2⟩ := enc_show t hg.2
  refine ⟨a, enc t, rfl, h, h1, h2, Nat.le_trans (enc_depth t 8 hg.1) (by decide), ?_, q⟩
  have e : (PyData.shown (enc t)).length = (txt t).length := by
    rw [← shown_txt t 8 hg.1 hg.2]
    show (PyData.shown (enc t)).cps.size = _
    simp
  have l := txt_len t 8 hg.1
  have c : 100 * 4 ^ 8 = 6553600 := by decide
  rw [e, line]
  omega
/-- a ground term is an object -/
theorem gr_ref {K : PySem.W.Frag} {H : Hp} {v : V} {t : T} {d : Nat} (h : TA K H v t) (hg : Gr d t) : ∃ a, v = .ref a := by
  cases t with
  | v n => exact absurd hg.2 (by simp [Lo])
  | a f ts =>
    obtain ⟨a, _, e, _⟩ := h.inv_a
    exact ⟨a, e⟩

/-! ### the names of the top -/
structure Top (mg : Str → Option Value) : Prop where
  isinstance : mg "isinstance" = none
  int : mg "int" = none
  tuple : mg "tuple" = none
  list : mg "list" = none
  len : mg "len" = none
  range : mg "range" = none
  repr : mg "repr" = none
  sum : mg "sum" = none
  sorted : mg "sorted" = none
  all : mg "all" = none
  abs : mg "abs" = none
  max : mg "max" = none
  str : mg "str" = none
theorem Has.mono {P : Program} {w : World} {K : PySem.W.Frag} {mg : Str → Option Value} {base : Heap} {j k : Nat} {x : Str} {n : Nat} {sp : Pr} (h : Has P w K mg base j x n sp) (l : j ≤ k) : Has P w K mg base k x n sp := by
  obtain ⟨f, F, a, b⟩ := h.ex
  exact ⟨f, F.mono l, a, b⟩
theorem Has.imp {P : Program} {w : World} {K : PySem.W.Frag} {mg : Str → Option Value} {base : Heap} {k : Nat} {x : Str} {n : Nat} {sp sp' : Pr} (h : Has P w K mg base k x n sp) (f : ∀ vs H Q, sp' vs H Q → sp vs H Q) : Has P w K mg base k x n sp' := by
  obtain ⟨a, F, b, c⟩ := h.ex
  exact ⟨a, F.imp f, b, c⟩
end Orl
set_option Elab.async false
set_option linter.all false
set_option maxRecDepth 100000
set_option maxHeartbeats 4000000
namespace Orl
open PySem PySem.Spec PyProof.Rows L2
section
variable {P : Program} {w : World} {K : PySem.W.Frag} {mg : Str → Option Value} {base : Heap} {k : Nat} {f : Addr}
/-! power -/
def spPower : Pr := fun vs H Q => ∃ (b n : Nat), vs = [.int b, .int n] ∧ b ≤ 8 ∧ n ≤ 12 ∧ Q (.int ((b ^ n : Nat) : Int)) H
abbrev Npower : List Str := ["base", "exponent", "result", "_"]
theorem sc_power : FnScope Npower ["base", "exponent"] (defScope s_power) := ⟨rfl, rfl, rfl, by decide +kernel, rfl, by decide +kernel, by decide +kernel⟩
theorem ok_power (F : FnP K "power" s_power f) (Tx : Top mg) : FnG P w K mg base (k + 1) f 2 spPower := by
  refine F.ok sc_power (fun _ _ _ _ _ _ us hl => match us, hl with | [_, _], _ => rfl) (fun vs H Q h => ?_) (fun cdv A outer s H vs Q hr hG h => ?_)
  · obtain ⟨b, n, rfl, _⟩ := h
    rfl
  · have nd := sc_power.nd
    obtain ⟨b, n, rfl, hb, hn, q⟩ := h
    refine ⟨_, ((pss_cons (ps_set (i := 2) nd rfl (Or.inl rfl) pe_int)
  (pss_cons (ps_for PassesOwn.never rfl (pi_range1 (by rfl) Tx.range (pa_cons (pv 1) pa_nil)) (pg_name (i := 3) nd rfl (Or.inl rfl))
    (pss_one (ps_set (i := 2) nd rfl (Or.inl rfl) (pe_op op_mul (pv 2) (pv 0)))))
  (pss_one (ps_ret (pv 2)))))), ?_⟩
    refine ⟨_, rfl, _, rfl, by omega, by omega, ?_⟩
    refine for_range (lo := 0) (n := (n : Int).toNat) (fun i σ' H' => H' = H ∧ ∃ y, σ' = [some (.int b), some (.int n), some (.int ((b ^ i : Nat) : Int)), y]) ⟨rfl, none, rfl⟩ ?_ ?_
    · rintro i σ' H' hi ⟨rfl, y, rfl⟩
      have e : ((b ^ (i + 1) : Nat) : Int) = ((b ^ i : Nat) : Int) * b := by rw [Nat.pow_succ, Int.natCast_mul]
      exact ⟨_, rfl, _, rfl, _, _, rfl, rfl, .inr ⟨by omega, by omega⟩, rfl, some (.int (0 + (i : Int))), by rw [e]; rfl⟩
    · rintro σ' H' ⟨rfl, y, rfl⟩
      refine ⟨_, rfl, ?_⟩
      rw [Int.toNat_natCast]
      exact q

end
end Orl
set_option Elab.async false
set_option linter.all false
set_option maxRecDepth 100000
set_option maxHeartbeats 4000000
namespace Orl
open PySem PySem.Spec PyProof.Rows L2
section
variable {P : Program} {w : World} {K : PySem.W.Frag} {mg : Str → Option Value} {base : Heap} {k : Nat} {f : Addr}
/-! the tape: draws -/
/-- the tape at p, its numbers at l -/
def Tape (H : Hp) (p l : Addr) : Prop := ∃ (ns : List Int) (pl big tot : Int), H p = some (.lst [.ref l, .int pl, .int big, .int tot]) ∧ H l = some (.lst (ns.map V.int)) ∧ 0 ≤ pl
theorem tape_ne {H : Hp} {p l : Addr} {ns : List Int} {pl big tot : Int} (h : H p = some (.lst [.ref l, .int pl, .int big, .int tot])) (h2 : H l = some (.lst (ns.map V.int))) : l ≠ p := by
  rintro rfl
  rw [h] at h2
  have e := Option.some.inj h2
  injection e with e
  cases ns with
  | nil => cases e
  | cons n r => injection e with e1; cases e1
theorem Tape.ex {H H' : Hp} {p l : Addr} (h : Tape H p l) (e : Ex H H') : Tape H' p l := by
  obtain ⟨ns, pl, big, tot, h1, h2, h3⟩ := h
  exact ⟨ns, pl, big, tot, e _ _ h1, e _ _ h2, h3⟩
theorem Tape.lst {H : Hp} {p l : Addr} (h : Tape H p l) : (∃ xs, H p = some (.lst xs)) ∧ ∃ xs, H l = some (.lst xs) := by
  obtain ⟨ns, pl, big, tot, h1, h2, _⟩ := h
  exact ⟨⟨_, h1⟩, _, h2⟩
theorem Tape.tk {K : PySem.W.Frag} {H H' : Hp} {p l : Addr} (h : Tape H p l) (e : Xb p H H') : Tk K H H' := by
  obtain ⟨⟨xs, h1⟩, _⟩ := h.lst
  exact Tk.xb h1 rfl e
/-- an address that is neither the tape nor its numbers -/
structure Off (q p l : Addr) : Prop where
  p : q ≠ p
  l : q ≠ l
theorem Tape.off {H : Hp} {p l q : Addr} (h : Tape H p l) (hq : H q = none) : Off q p l := by
  obtain ⟨⟨xs, h1⟩, ys, h2⟩ := h.lst
  refine ⟨?_, ?_⟩
  · rintro rfl
    rw [h1] at hq
    cases hq
  · rintro rfl
    rw [h2] at hq
    cases hq
theorem Tape.mut {H : Hp} {p l q : Addr} {o : HO} (h : Tape H p l) (n : Off q p l) : Tape (L2.upd H q o) p l := by
  obtain ⟨ns, pl, big, tot, h1, h2, h3⟩ := h
  exact ⟨ns, pl, big, tot, by rw [upd_ne (Ne.symm n.p)]; exact h1, by rw [upd_ne (Ne.symm n.l)]; exact h2, h3⟩
/-- drawn from the tape at p: all else stays -/
structure Dr (p l : Addr) (H H' : Hp) : Prop where
  x : Xb p H H'
  t : Tape H' p l
section
variable {p l q : Addr} {H H1 H2 : Hp} {o : HO}
theorem Dr.refl (h : Tape H p l) : Dr p l H H := ⟨Xb.refl p H, h⟩
theorem Dr.trans (a : Dr p l H H1) (b : Dr p l H1 H2) : Dr p l H H2 := ⟨a.x.trans b.x, b.t⟩
theorem Dr.ex (a : Dr p l H H1) (b : Ex H1 H2) : Dr p l H H2 := ⟨a.x.trans (Xb.ex b), a.t.ex b⟩
theorem Dr.new (a : Dr p l H H1) (h : H1 q = none) : Dr p l H (L2.upd H1 q o) := a.ex (Ex.new h)
/-- an object that was not there at the start changes -/
theorem Dr.mut (a : Dr p l H H1) (h : H q = none) (n : Off q p l) : Dr p l H (L2.upd H1 q o) := ⟨a.x.mutN h, a.t.mut n⟩
theorem Dr.keep (d : Dr p l H H1) (n : q ≠ p) (h : H q = some o) : H1 q = some o := d.x _ _ n h
theorem Dr.tk {K : PySem.W.Frag} (d : Dr p l H H1) (h : Tape H p l) : Tk K H H1 := h.tk d.x
theorem Dr.back (d : Dr p l H H1) (n : q ≠ p) (h : H1 q = none) : H q = none := backX d.x n h
theorem Dr.fresh (d : Dr p l H H1) (h : H1 q = none) : H q = none := d.back (d.t.off h).p h
end
def spTape (K : PySem.W.Frag) : Pr := fun vs H Q => ∃ (a : Addr) (ns : List Int), vs = [.ref a] ∧ SqL K H a (ns.map V.int) ∧ ∀ p l H', Ex H H' → Tape H' p l → H p = none → H l = none → Q (.ref p) H'
abbrev N_law_tape : List Str := ["_law_script", "_law_total", "_law_cell"]
theorem sc__law_tape : FnScope N_law_tape ["_law_script"] (defScope s_law_tape) := ⟨rfl, rfl, rfl, by decide +kernel, rfl, by decide +kernel, by decide +kernel⟩
theorem ok__law_tape (F : FnP K "_law_tape" s_law_tape f) (Tx : Top mg) : FnG P w K mg base (k + 1) f 1 (spTape K) := by
  refine F.ok sc__law_tape (fun _ _ _ _ _ _ us hl => match us, hl with | [_], _ => rfl) (fun vs H Q h => ?_) (fun cdv A outer s H vs Q hr hG h => ?_)
  · obtain ⟨a, ns, rfl, _⟩ := h
    rfl
  · have nd := sc__law_tape.nd
    obtain ⟨a, ns, rfl, hS, q⟩ := h
    refine ⟨_, ((pss_cons (ps_set (i := 1) nd rfl (Or.inl rfl) pe_int)
  (pss_cons (ps_for PassesOwn.never rfl (pi_list (pv 0)) (pg_name (i := 2) nd rfl (Or.inl rfl))
    (pss_one (ps_set (i := 1) nd rfl (Or.inl rfl) (pe_op op_mod (pe_callTy call_int1 (by rfl) Tx.int (by decide +kernel) (pa_cons (pe_op op_add (pe_op op_mul (pv 1) pe_int) (pe_callB call_abs (by rfl) Tx.abs (by decide +kernel) (pa_cons (pe_callTy call_int1 (by rfl) Tx.int (by decide +kernel) (pa_cons (pv 2) pa_nil)) pa_nil))) pa_nil)) pe_int))))
  (pss_one (ps_ret (pe_lst (pa_cons (pe_callTy call_list_of (by rfl) Tx.list (by decide +kernel) (pa_cons (pv 0) pa_nil)) (pa_cons pe_int (pa_cons pe_int (pa_cons (pv 1) pa_nil)))))))))), ?_⟩
    refine ⟨_, rfl, a, rfl, ⟨_, hS⟩, ?_⟩
    refine for_list (xs := ns.map V.int) (fun i σ' H' => H' = H ∧ ∃ (t : Int) (y : Option V), σ' = [some (.ref a), some (.int t), y]) ⟨rfl, 7, none, rfl⟩ (fun i σ' H' _ h => by rw [h.1]; exact hS) ?_ ?_
    · rintro i x σ' H' hx ⟨rfl, t, y, rfl⟩
      obtain ⟨n, rfl⟩ : ∃ n, x = V.int n := by
        rw [List.getElem?_map] at hx
        cases e : ns[i]? with
        | none => rw [e] at hx; cases hx
        | some n => rw [e] at hx; exact ⟨n, (Option.some.inj hx).symm⟩
      refine ⟨_, rfl, _, _, rfl, rfl, .inr ⟨by decide, by decide⟩, ?_⟩
      refine ⟨_, rfl, .inl ⟨_, rfl, ?_⟩⟩
      refine ⟨_, rfl, _, _, rfl, rfl, .inl ⟨_, rfl, ?_⟩⟩
      exact ⟨_, _, rfl, rfl, show (0 : Int) < 2147483647 by decide, rfl, _, _, rfl⟩
    · rintro σ' H' ⟨rfl, t, y, rfl⟩
      refine ⟨_, rfl, a, ns.map V.int, rfl, .inl hS, fun l hl => ?_⟩
      refine ⟨_, rfl, szl (show 4 ≤ 100000 by decide), fun p hp => ?_⟩
      refine q p l _ ((Ex.new hl).trans (Ex.new hp)) ⟨ns, 0, 0, t, upd_same, ?_, by decide⟩ (back (Ex.new hl) hp) hl
      rw [upd_ne (ne_of_none upd_same hp), upd_same]

end
end Orl
set_option Elab.async false
set_option linter.all false
set_option maxRecDepth 100000
set_option maxHeartbeats 4000000
namespace Orl
open PySem PySem.Spec PyProof.Rows L2
section
variable {P : Program} {w : World} {K : PySem.W.Frag} {mg : Str → Option Value} {base : Heap} {k : Nat} {f : Addr}
/-! _law_draw -/
def spDraw : Pr := fun vs H Q => ∃ (p l : Addr) (m : Int), vs = [.ref p, .int m] ∧ Tape H p l ∧ 1 ≤ m ∧ m < 1073741824 ∧ ∀ (r : Nat) H', (r : Int) < m → Dr p l H H' → Q (.int r) H'
theorem draw_end {m n : Int} (hm : 1 ≤ m) {Qi : Int → Prop} (q : ∀ r : Nat, (r : Int) < m → Qi r) : Qi (n % (if (1 : Int) > m then 1 else m)) := by
  rw [if_neg (by omega)]
  have h1 := Int.emod_nonneg n (show m ≠ 0 by omega)
  have h2 := Int.emod_lt_of_pos n (show 0 < m by omega)
  have := q (n % m).toNat (by omega)
  rw [Int.toNat_of_nonneg h1] at this
  exact this
abbrev N_law_draw : List Str := ["_law_tape_here", "_law_many", "_law_place", "_law_number"]
theorem sc__law_draw : FnScope N_law_draw ["_law_tape_here", "_law_many"] (defScope s_law_draw) := ⟨rfl, rfl, rfl, by decide +kernel, rfl, by decide +kernel, by decide +kernel⟩
theorem ok__law_draw (F : FnP K "_law_draw" s_law_draw f) (Tx : Top mg) : FnG P w K mg base (k + 1) f 2 spDraw := by
  refine F.ok sc__law_draw (fun _ _ _ _ _ _ us hl => match us, hl with | [_, _], _ => rfl) (fun vs H Q h => ?_) (fun cdv A outer s H vs Q hr hG h => ?_)
  · obtain ⟨p, l, m, rfl, _⟩ := h
    rfl
  · have nd := sc__law_draw.nd
    obtain ⟨p, l, m, rfl, hT, h1, h2, q⟩ := h
    refine ⟨_, ((Evl.pss_cut (ps_if (pt_cmpR op_eq (pe_ix ix_list (pv 0) pe_int (fun _ _ => rfl)) pe_int (nomark _))
    (pss_cons (ps_set (i := 2) nd rfl (Or.inl rfl) (pe_ix ix_list (pv 0) pe_int (fun _ _ => rfl)))
  (pss_cons (ps_set (i := 3) nd rfl (Or.inl rfl) pe_int)
  (Evl.pss_cut (ps_if (pt_cmpR op_lt (pv 2) (pe_callB call_len_seq (by rfl) Tx.len (by decide +kernel) (pa_cons (pe_ix ix_list (pv 0) pe_int (fun _ _ => rfl)) pa_nil)) (nomark _))
    (pss_one (ps_set (i := 3) nd rfl (Or.inl rfl) (pe_callB call_abs (by rfl) Tx.abs (by decide +kernel) (pa_cons (pe_callTy call_int1 (by rfl) Tx.int (by decide +kernel) (pa_cons (pe_ix ix_list (pe_ix ix_list (pv 0) pe_int (fun _ _ => rfl)) (pv 2) (fun _ _ => rfl)) pa_nil)) pa_nil))))
    (pss_cons (ps_asg (pe_op op_mod (pe_callTy call_int1 (by rfl) Tx.int (by decide +kernel) (pa_cons (pe_op op_add (pe_op op_add (pe_op op_mul (pe_ix ix_list (pv 0) pe_int (fun _ _ => rfl)) pe_int) (pv 2)) pe_int) pa_nil)) pe_int) (pg_sub (pv 0) pe_int set_list))
  (pss_one (ps_set (i := 3) nd rfl (Or.inl rfl) (pe_ix ix_list (pv 0) pe_int (fun _ _ => rfl))))))
  (pss_cons (ps_asg (pe_op op_add (pv 2) pe_int) (pg_sub (pv 0) pe_int set_list))
  (pss_cons (ps_if (pt_cmpR op_lt (pv 3) (pe_op op_pow pe_int pe_int) (nomark _))
    (pss_cons (ps_set (i := 3) nd rfl (Or.inl rfl) (pe_op op_mod (pe_callTy call_int1 (by rfl) Tx.int (by decide +kernel) (pa_cons (pe_op op_add (pe_op op_add (pe_op op_mul (pv 3) pe_int) (pe_op op_mul (pv 2) pe_int)) pe_int) pa_nil)) pe_int))
  (pss_cons (ps_set (i := 3) nd rfl (Or.inl rfl) (pe_op op_mod (pe_callTy call_int1 (by rfl) Tx.int (by decide +kernel) (pa_cons (pe_op op_mul (pv 3) pe_int) pa_nil)) pe_int))
  (pss_one (ps_ret (pe_op op_mod (pe_callTy call_int1 (by rfl) Tx.int (by decide +kernel) (pa_cons (pv 3) pa_nil)) (pe_callB (call_max2 rfl) (by rfl) Tx.max (by decide +kernel) (pa_cons (pv 1) (pa_cons pe_int pa_nil))))))))
    pss_nil)
  (pss_one (ps_asg (pv 3) (pg_sub (pv 0) pe_int set_list))))))))
    pss_nil)
  (pss_cons (ps_set (i := 3) nd rfl (Or.inl rfl) (pe_ix ix_list (pv 0) pe_int (fun _ _ => rfl)))
  (pss_cons (ps_asg (pe_op op_fdiv (pv 3) (pe_callB (call_max2 rfl) (by rfl) Tx.max (by decide +kernel) (pa_cons (pv 1) (pa_cons pe_int pa_nil)))) (pg_sub (pv 0) pe_int set_list))
  (pss_one (ps_ret (pe_op op_mod (pe_callTy call_int1 (by rfl) Tx.int (by decide +kernel) (pa_cons (pv 3) pa_nil)) (pe_callB (call_max2 rfl) (by rfl) Tx.max (by decide +kernel) (pa_cons (pv 1) (pa_cons pe_int pa_nil)))))))))), ?_⟩
    obtain ⟨ns, pl, big, tot, hp, hl, h0⟩ := hT
    have hlp := tape_ne hp hl
    have m1 : (0 : Int) < if (1 : Int) > m then 1 else m := by split <;> omega
    have m2 : (0 : Int) < (if (2 : Int) > m then 2 else m) ∧ (if (2 : Int) > m then 2 else m) < (1073741824 : Int) := by constructor <;> split <;> omega
    -- the state ahead of the end: a number at tape[2]
    refine ⟨fun σ' H' => ∃ (pl n tot : Int) (x y : Option V), σ' = [some (.ref p), some (.int m), x, y] ∧ Xb p H H' ∧ H' p = some (.lst [.ref l, .int pl, .int n, .int tot]) ∧ 0 ≤ pl, ?_, ?_⟩
    · refine ⟨_, rfl, p, _, 2, .int big, rfl, rfl, .inl (.inl hp), rfl, rfl, _, rfl, ?_⟩
      by_cases hb : big = 0
      · subst hb
        refine iteT ?_
        refine ⟨_, rfl, p, _, 1, .int pl, rfl, rfl, .inl (.inl hp), rfl, ?_⟩
        -- the next number
        refine ⟨fun σ' H' => ∃ (n tot : Int), σ' = [some (.ref p), some (.int m), some (.int pl), some (.int n)] ∧ Xb p H H' ∧ H' p = some (.lst [.ref l, .int pl, .int 0, .int tot]), ?_, ?_⟩
        · refine ⟨_, rfl, _, rfl, p, _, 0, .ref l, rfl, rfl, .inl (.inl hp), rfl, l, _, rfl, .inl (.inl (.inl hl)), pl, _, rfl, rfl, _, rfl, ?_⟩
          rw [List.length_map]
          by_cases hlt : pl < ns.length
          · rw [decide_eq_true hlt]
            refine iteT ?_
            have hx : (ns.map V.int)[pl.toNat]? = some (.int (ns[pl.toNat]'(by omega))) := by
              rw [List.getElem?_map, List.getElem?_eq_getElem (by omega)]
              rfl
            refine ⟨_, rfl, p, _, 0, .ref l, rfl, rfl, .inl (.inl hp), rfl, _, rfl, l, _, pl, _, rfl, rfl, .inl (.inl hl), atN (by omega) hx, ?_⟩
            exact .inl ⟨_, rfl, _, rfl, _, tot, rfl, Xb.refl _ _, hp⟩
          · rw [decide_eq_false hlt]
            refine iteF ?_
            refine ⟨_, rfl, p, _, 3, .int tot, rfl, rfl, .inl (.inl hp), rfl, _, _, rfl, rfl, .inr ⟨by decide, by decide⟩, _, rfl, _, _, rfl, rfl, _, _, rfl, rfl, .inl ⟨_, rfl, _, _, rfl, rfl, show (0 : Int) < 2147483647 by decide, ?_⟩⟩
            refine ⟨_, rfl, p, _, 3, 3, rfl, rfl, hp, rfl, ?_⟩
            refine ⟨_, rfl, p, _, 3, _, rfl, rfl, .inl (.inl upd_same), rfl, ?_⟩
            exact ⟨_, _, rfl, Xb.upd, upd_same⟩
        · rintro σ' H' ⟨n, tot, rfl, hX, hp'⟩
          refine ⟨_, rfl, _, _, rfl, rfl, _, rfl, p, _, 1, 1, rfl, rfl, hp', rfl, ?_⟩
          refine ⟨_, rfl, _, _, rfl, rfl, ⟨by decide, by decide, by decide⟩, _, _, rfl, rfl, _, rfl, ?_⟩
          refine ite2 (fun _ => ?_) fun _ => ?_
          · refine ⟨_, rfl, _, _, rfl, rfl, .inr ⟨by decide, by decide⟩, _, rfl, _, _, rfl, rfl, .inr ⟨by decide, by decide⟩, _, _, rfl, rfl, _, _, rfl, rfl, .inl ⟨_, rfl, _, _, rfl, rfl, show (0 : Int) < 2147483647 by decide, ?_⟩⟩
            refine ⟨_, rfl, _, _, rfl, rfl, .inr ⟨by decide, by decide⟩, .inl ⟨_, rfl, _, _, rfl, rfl, show (0 : Int) < 2147483629 by decide, ?_⟩⟩
            refine ⟨_, rfl, .inl ⟨_, rfl, _, rfl, m, 1, rfl, _, _, rfl, rfl, m1, ?_⟩⟩
            refine draw_end h1 (Qi := fun r => Q (.int r) _) fun r hr => q r _ hr ⟨hX.mut, ns, pl + 1, 0, tot, upd_same, ?_, by omega⟩
            rw [upd_ne hlp]
            exact hX _ _ hlp hl
          · refine ⟨_, rfl, _, rfl, p, _, 2, 2, rfl, rfl, upd_same, rfl, ?_⟩
            exact ⟨pl + 1, n, tot, _, _, rfl, hX.mut.mut, upd_same, by omega⟩
      · have e : decide (V.int big = V.int 0) = false := decide_eq_false (fun z => hb (V.int.inj z))
        rw [e]
        refine iteF ?_
        exact ⟨pl, big, tot, none, none, rfl, Xb.refl _ _, hp, h0⟩
    · rintro σ' H' ⟨pl, n, tot, x, y, rfl, hX, hp', hpl⟩
      refine ⟨_, rfl, p, _, 2, .int n, rfl, rfl, .inl (.inl hp'), rfl, ?_⟩
      refine ⟨_, rfl, _, rfl, m, 2, rfl, _, _, rfl, rfl, m2, ?_⟩
      refine ⟨_, rfl, p, _, 2, 2, rfl, rfl, hp', rfl, ?_⟩
      refine ⟨_, rfl, .inl ⟨_, rfl, _, rfl, m, 1, rfl, _, _, rfl, rfl, m1, ?_⟩⟩
      refine draw_end (n := n) h1 (Qi := fun r => Q (.int r) _) fun r hr => q r _ hr ⟨hX.mut, ns, pl, _, tot, upd_same, ?_, hpl⟩
      rw [upd_ne hlp]
      exact hX _ _ hlp hl

end
end Orl
set_option Elab.async false
set_option linter.all false
set_option maxRecDepth 100000
set_option maxHeartbeats 4000000
namespace Orl
open PySem PySem.Spec PyProof.Rows L2
section
variable {P : Program} {w : World} {K : PySem.W.Frag} {mg : Str → Option Value} {base : Heap} {k : Nat} {f : Addr}
/-! _law_word -/
def Ok (x : Str) (n : Nat) : Prop := x.cps.toList.length ≤ n ∧ ∀ c ∈ x.cps.toList, okC c = true
theorem ok_app {x y : Str} {m n : Nat} (a : Ok x m) (b : Ok y n) : Ok (x ++ y) (m + n) := by
  constructor
  · rw [app_l, List.length_append]
    have := a.1
    have := b.1
    omega
  · intro c hc
    rw [app_l] at hc
    rcases List.mem_append.mp hc with hc | hc
    · exact a.2 c hc
    · exact b.2 c hc
theorem ok_cut {x : Str} {n : Nat} {lo hi : Option Int} (a : Ok x n) : Ok (cutS x lo hi) n := by
  have e : (cutS x lo hi).cps.toList = (x.cps.toList.drop (HT.sIx x.length 0 lo)).take (HT.sIx x.length x.length hi - HT.sIx x.length 0 lo) := by simp [cutS]
  constructor
  · rw [e, List.length_take, List.length_drop]
    have := a.1
    omega
  · intro c hc
    rw [e] at hc
    exact a.2 c (List.drop_subset _ _ (List.take_subset _ _ hc))
theorem ok_len {x : Str} {n : Nat} (a : Ok x n) : x.length ≤ n := by
  have := a.1
  rw [Array.length_toList] at this
  exact this
theorem ok_item {z : Str} {n : Nat} {i : Int} (a : Ok z n) (h0 : 0 ≤ i) (h1 : i < z.cps.toList.length) : ∃ c, atI z.cps.toList i = some c ∧ Ok ⟨#[c]⟩ 1 := by
  have l : i.toNat < z.cps.toList.length := by omega
  have e : z.cps.toList[i.toNat]? = some (z.cps.toList[i.toNat]) := List.getElem?_eq_getElem l
  refine ⟨z.cps.toList[i.toNat], ?_, by simp, ?_⟩
  · have := atI_nat e
    rw [Int.toNat_of_nonneg h0] at this
    exact this
  · intro c hc
    have : c = z.cps.toList[i.toNat] := by simpa using hc
    rw [this]
    exact a.2 _ (List.getElem_mem l)
def lettS : Str := "abcdefghijklmnopqrstuvwxyz"
def restS : Str := "ABCDEFGHIJKLMNOPQRSTUVWXYZ0123456789"
theorem lett_ok : Ok lettS 26 ∧ lettS.cps.toList.length = 26 := by
  refine ⟨⟨?_, ?_⟩, ?_⟩ <;> decide +kernel
theorem rest_ok : Ok restS 36 ∧ restS.cps.toList.length = 36 := by
  refine ⟨⟨?_, ?_⟩, ?_⟩ <;> decide +kernel
theorem sign_ok : Ok (lettS ++ restS) 62 ∧ (lettS ++ restS).cps.toList.length = 62 := by
  refine ⟨ok_app lett_ok.1 rest_ok.1, ?_⟩
  rw [app_l, List.length_append, lett_ok.2, rest_ok.2]
def spWord : Pr := fun vs H Q => ∃ (p l : Addr) (st : Str), vs = [.ref p, .str st] ∧ Tape H p l ∧ Ok st 13 ∧ ∀ (x : Str) H', Ok x 16 → Dr p l H H' → Q (.str x) H'
abbrev N_law_word : List Str := ["_law_tape_here", "_law_stem", "_law_letters", "_law_signs", "_law_number", "_law_word_here", "_law_length"]
theorem sc__law_word : FnScope N_law_word ["_law_tape_here", "_law_stem"] (defScope s_law_word) := ⟨rfl, rfl, rfl, by decide +kernel, rfl, by decide +kernel, by decide +kernel⟩
theorem ok__law_word (F : FnP K "_law_word" s_law_word f) (Tx : Top mg) (h_law_draw : Has P w K mg base k "_law_draw" 2 spDraw) : FnG P w K mg base (k + 1) f 2 spWord := by
  refine F.ok sc__law_word (fun _ _ _ _ _ _ us hl => match us, hl with | [_, _], _ => rfl) (fun vs H Q h => ?_) (fun cdv A outer s H vs Q hr hG h => ?_)
  · obtain ⟨p, l, m, rfl, _⟩ := h
    rfl
  · have nd := sc__law_word.nd
    obtain ⟨p, l, st, rfl, hT, hs, q⟩ := h
    refine ⟨_, ((pss_cons (ps_set (i := 2) nd rfl (Or.inl rfl) pe_str)
  (pss_cons (ps_set (i := 3) nd rfl (Or.inl rfl) (pe_op op_add_str (pv 2) pe_str))
  (pss_cons (ps_set (i := 4) nd rfl (Or.inl rfl) (pe_own h_law_draw hr hG (by rfl) (pa_cons (pv 0) (pa_cons (pe_op op_mul (pe_op op_mul (pe_op op_mul pe_int pe_int) pe_int) pe_int) pa_nil))))
  (pss_cons (ps_set (i := 5) nd rfl (Or.inl rfl) (pe_op op_add_str (pe_op op_add_str (pe_ix ix_str (pv 2) (pe_op op_mod (pe_callTy call_int1 (by rfl) Tx.int (by decide +kernel) (pa_cons (pv 4) pa_nil)) pe_int) (fun _ _ => rfl)) (pe_ix ix_str (pv 3) (pe_op op_mod (pe_callTy call_int1 (by rfl) Tx.int (by decide +kernel) (pa_cons (pe_op op_fdiv (pv 4) pe_int) pa_nil)) pe_int) (fun _ _ => rfl))) (pe_ix ix_str (pv 3) (pe_op op_mod (pe_callTy call_int1 (by rfl) Tx.int (by decide +kernel) (pa_cons (pe_op op_fdiv (pv 4) pe_int) pa_nil)) pe_int) (fun _ _ => rfl))))
  (pss_cons (ps_set (i := 6) nd rfl (Or.inl rfl) (pe_op op_mod (pe_callTy call_int1 (by rfl) Tx.int (by decide +kernel) (pa_cons (pe_op op_fdiv (pv 4) pe_int) pa_nil)) pe_int))
  (pss_cons (ps_if (pt_cmpR op_eq (pv 6) pe_int (nomark _))
    (pss_one (ps_ret (pe_slice sl_str (pe_op op_add_str (pv 1) (pv 5)) po_none (po_some pe_int))))
    pss_nil)
  (pss_one (ps_ret (pe_slice sl_str (pv 5) po_none (po_some (pe_op op_add pe_int (pv 6))))))))))))), ?_⟩
    have sl : ∀ {x : Str} {n : Nat}, Ok x n → n ≤ 100000 → x.length ≤ sizeLine := fun a l => szl (Nat.le_trans (ok_len a) l)
    refine ⟨_, rfl, lettS, restS, rfl, rfl, szl (by have := ok_len lett_ok.1; have := ok_len rest_ok.1; omega), ?_⟩
    refine ⟨_, rfl, _, _, rfl, rfl, .inl ⟨by decide, by decide⟩, _, _, rfl, rfl, .inl ⟨by decide, by decide⟩, _, _, rfl, rfl, .inl ⟨by decide, by decide⟩, ?_⟩
    refine ⟨p, l, _, rfl, hT, by decide, by decide, fun r H' hr hD => ?_⟩
    obtain ⟨c1, a1, o1⟩ := ok_item lett_ok.1 (i := (r : Int) % 26) (by omega) (by rw [lett_ok.2]; omega)
    obtain ⟨c2, a2, o2⟩ := ok_item sign_ok.1 (i := ((r : Int) / 26) % 62) (by omega) (by rw [sign_ok.2]; omega)
    obtain ⟨c3, a3, o3⟩ := ok_item sign_ok.1 (i := ((r : Int) / 1612) % 62) (by omega) (by rw [sign_ok.2]; omega)
    have w2 : Ok ((⟨#[c1]⟩ : Str) ++ ⟨#[c2]⟩) 2 := ok_app o1 o2
    have w3 : Ok ((⟨#[c1]⟩ : Str) ++ ⟨#[c2]⟩ ++ ⟨#[c3]⟩) 3 := ok_app w2 o3
    refine ⟨_, rfl, _, rfl, .inl ⟨_, rfl, _, _, rfl, rfl, show (0 : Int) < 26 by decide, lettS, _, c1, rfl, rfl, sl lett_ok.1 (by decide), a1, ?_⟩⟩
    refine ⟨_, rfl, _, rfl, _, _, rfl, rfl, ⟨by decide, by decide⟩, .inl ⟨_, rfl, _, _, rfl, rfl, show (0 : Int) < 62 by decide, lettS ++ restS, _, c2, rfl, rfl, sl sign_ok.1 (by decide), a2, ?_⟩⟩
    refine ⟨_, _, rfl, rfl, szl (by have := ok_len o1; have := ok_len o2; omega), ?_⟩
    refine ⟨_, rfl, _, rfl, _, _, rfl, rfl, ⟨by decide, by decide⟩, .inl ⟨_, rfl, _, _, rfl, rfl, show (0 : Int) < 62 by decide, lettS ++ restS, _, c3, rfl, rfl, sl sign_ok.1 (by decide), a3, ?_⟩⟩
    refine ⟨_, _, rfl, rfl, szl (by have := ok_len w2; have := ok_len o3; omega), ?_⟩
    refine ⟨_, rfl, _, _, rfl, rfl, ⟨by decide, by decide⟩, .inl ⟨_, rfl, _, _, rfl, rfl, show (0 : Int) < 4 by decide, ?_⟩⟩
    refine ⟨_, rfl, rfl, _, rfl, ?_⟩
    refine ite2 (fun _ => ?_) fun _ => ?_
    · refine ⟨_, rfl, _, rfl, _, _, rfl, rfl, szl (by have := ok_len hs; have := ok_len w3; omega), ?_⟩
      refine ⟨_, rfl, _, rfl, sl (ok_app hs w3) (by decide), ?_⟩
      exact q _ H' (ok_cut (ok_app hs w3)) hD
    · refine ⟨_, rfl, _, rfl, _, _, rfl, rfl, _, rfl, _, rfl, sl w3 (by decide), ?_⟩
      exact q _ H' (ok_cut ⟨Nat.le_trans w3.1 (by decide), w3.2⟩) hD

end
end Orl
set_option Elab.async false
set_option linter.all false
set_option maxRecDepth 100000
set_option maxHeartbeats 4000000
namespace Orl
open PySem PySem.Spec PyProof.Rows L2
section
variable {P : Program} {w : World} {K : PySem.W.Frag} {mg : Str → Option Value} {base : Heap} {k : Nat} {f : Addr}
/-! _law_symbols, _law_relations -/
/-- a symbol: a name and a number of arguments -/
def SymAt (K : PySem.W.Frag) (H : Hp) (v : V) : Prop := ∃ (r : Addr) (nm : Str) (ar : Nat), v = .ref r ∧ SqT K H r [.str nm, .int ar] ∧ Nm nm ∧ ar ≤ 3
theorem SymAt.up {K : PySem.W.Frag} {H H' : Hp} {v : V} (h : SymAt K H v) (k : Tk K H H') : SymAt K H' v := by
  obtain ⟨r, nm, ar, e, hs, a, b⟩ := h
  exact ⟨r, nm, ar, e, k _ _ hs, a, b⟩
def Syms (K : PySem.W.Frag) (H : Hp) (vs : List V) : Prop := ∀ v ∈ vs, SymAt K H v
theorem Syms.up {K : PySem.W.Frag} {H H' : Hp} {vs : List V} (h : Syms K H vs) (k : Tk K H H') : Syms K H' vs := fun v hv => (h v hv).up k
theorem Syms.snoc {K : PySem.W.Frag} {H : Hp} {vs : List V} {v : V} (h : Syms K H vs) (q : SymAt K H v) : Syms K H (vs ++ [v]) := fun u hu => by
  rcases List.mem_append.mp hu with hu | hu
  · exact h u hu
  · have : u = v := by simpa using hu
    rw [this]
    exact q
theorem ok_nm {x : Str} {n : Nat} (h : Ok x n) (l : n ≤ 20) : Nm x := ⟨Nat.le_trans h.1 l, h.2⟩
def ar6 : List V := [.int 0, .int 1, .int 2, .int 0, .int 1, .int 3]
theorem six {xs : List V} (h : xs = [.int 0, .int 1, .int 2, .int 0, .int 1, .int 3] ∨ xs = [.int 1, .int 2, .int 1, .int 2, .int 3, .int 0] ∨ xs = [.int 0, .int 1, .int 2, .int 1, .int 2, .int 3]) {r : Nat} (hr : (r : Int) < 6) : ∃ a : Nat, a ≤ 3 ∧ atI xs (r : Int) = some (.int a) := by
  have : r = 0 ∨ r = 1 ∨ r = 2 ∨ r = 3 ∨ r = 4 ∨ r = 5 := by omega
  rcases h with rfl | rfl | rfl <;> rcases this with rfl | rfl | rfl | rfl | rfl | rfl
  all_goals first | exact ⟨0, by decide, rfl⟩ | exact ⟨1, by decide, rfl⟩ | exact ⟨2, by decide, rfl⟩ | exact ⟨3, by decide, rfl⟩
def spSymbols (K : PySem.W.Frag) : Pr := fun vs H Q => ∃ (p l : Addr) (m : Nat), vs = [.ref p, .int m] ∧ Tape H p l ∧ 1 ≤ m ∧ m ≤ 20 ∧ ∀ (q : Addr) (xs : List V) H', Dr p l H H' → H q = none → H' q = some (.lst xs) → xs.length = m + 1 → Syms K H' xs → Q (.ref q) H'
abbrev N_law_symbols : List Str := ["_law_tape_here", "_law_many", "_law_stem", "_law_symbols_here", "_law_k", "_law_name"]
theorem sc__law_symbols : FnScope N_law_symbols ["_law_tape_here", "_law_many"] (defScope s_law_symbols) := ⟨rfl, rfl, rfl, by decide +kernel, rfl, by decide +kernel, by decide +kernel⟩
theorem ok__law_symbols (F : FnP K "_law_symbols" s_law_symbols f) (Tx : Top mg) (h_law_draw : Has P w K mg base k "_law_draw" 2 spDraw) (h_law_word : Has P w K mg base k "_law_word" 2 spWord) : FnG P w K mg base (k + 1) f 2 (spSymbols K) := by
  refine F.ok sc__law_symbols (fun _ _ _ _ _ _ us hl => match us, hl with | [_, _], _ => rfl) (fun vs H Q h => ?_) (fun cdv A outer s H vs Q hr hG h => ?_)
  · obtain ⟨p, l, m, rfl, _⟩ := h
    rfl
  · have nd := sc__law_symbols.nd
    obtain ⟨p, l, m, rfl, hT, h1, h2, q⟩ := h
    refine ⟨_, ((pss_cons (ps_set (i := 2) nd rfl (Or.inl rfl) (pe_ix ix_list (pe_lst (pa_cons pe_str (pa_cons pe_str pa_nil))) (pe_own h_law_draw hr hG (by rfl) (pa_cons (pv 0) (pa_cons pe_int pa_nil))) (fun _ _ => rfl)))
  (pss_cons (ps_set (i := 3) nd rfl (Or.inl rfl) (pe_lst pa_nil))
  (pss_cons (ps_for PassesOwn.never rfl (pi_range1 (by rfl) Tx.range (pa_cons (pv 1) pa_nil)) (pg_name (i := 4) nd rfl (Or.inl rfl))
    (pss_cons (ps_set (i := 5) nd rfl (Or.inl rfl) (pe_own h_law_word hr hG (by rfl) (pa_cons (pv 0) (pa_cons (pv 2) pa_nil))))
  (pss_one (ps_expr (pe_bm PySem.F.plainAttrs_list PySem.F.slot_list_append PySem.F.type_list_append mt_append (pv 3) (pa_cons (pe_tup (pa_cons (pv 5) (pa_cons (pe_ix ix_list (pe_lst (pa_cons pe_int (pa_cons pe_int (pa_cons pe_int (pa_cons pe_int (pa_cons pe_int (pa_cons pe_int pa_nil))))))) (pe_own h_law_draw hr hG (by rfl) (pa_cons (pv 0) (pa_cons pe_int pa_nil))) (fun _ _ => rfl)) pa_nil))) pa_nil))))))
  (pss_cons (ps_expr (pe_bm PySem.F.plainAttrs_list PySem.F.slot_list_append PySem.F.type_list_append mt_append (pv 3) (pa_cons (pe_tup (pa_cons (pe_ix ix_tup (pe_ix ix_list (pv 3) pe_int (fun _ _ => rfl)) pe_int (fun _ _ => rfl)) (pa_cons pe_int pa_nil))) pa_nil)))
  (pss_one (ps_ret (pv 3)))))))), ?_⟩
    refine ⟨szl (show 2 ≤ 100000 by decide), fun b hb => ?_⟩
    have D0 := (Dr.refl hT).new (o := .lst [.str "", .str "constructorOf"]) hb
    refine ⟨_, rfl, p, l, _, rfl, D0.t, by decide, by decide, fun r H1 hr1 D1 => ?_⟩
    have D1' := D0.trans D1
    have hb1 : H1 b = some (.lst [.str "", .str "constructorOf"]) := D1.keep (hT.off hb).p upd_same
    obtain ⟨st, hst, ok⟩ : ∃ st : Str, atI [V.str "", V.str "constructorOf"] (r : Int) = some (.str st) ∧ Ok st 13 := by
      have : r = 0 ∨ r = 1 := by omega
      rcases this with rfl | rfl
      · exact ⟨"", rfl, by constructor <;> decide +kernel⟩
      · exact ⟨"constructorOf", rfl, by constructor <;> decide +kernel⟩
    refine ⟨b, _, r, .str st, rfl, rfl, .inl (.inl hb1), hst, ?_⟩
    refine ⟨szl (Nat.zero_le _), fun a ha => ?_⟩
    have ha0 : H a = none := D1'.fresh ha
    have oa : Off a p l := hT.off ha0
    refine ⟨_, rfl, m, rfl, by omega, by omega, ?_⟩
    refine for_range (lo := 0) (n := (m : Int).toNat) (fun i σ' H' => ∃ (xs : List V) (x y : Option V), σ' = [some (.ref p), some (.int m), some (.str st), some (.ref a), x, y] ∧ Dr p l H H' ∧ H' a = some (.lst xs) ∧ xs.length = i ∧ Syms K H' xs)
      ⟨[], none, none, rfl, D1'.new ha, upd_same, rfl, fun v hv => by cases hv⟩ ?_ ?_
    · rintro i σ' H' hi ⟨xs, x, y, rfl, D, hx, hl, hS⟩
      refine ⟨_, rfl, _, rfl, p, l, st, rfl, D.t, ok, fun z H2 oz D2 => ?_⟩
      have hx2 : H2 a = some (.lst xs) := D2.keep oa.p hx
      refine ⟨_, rfl, .inl ⟨rfl, _, .inl (.inl hx2)⟩, ?_⟩
      refine ⟨_, rfl, szl (show 6 ≤ 100000 by decide), fun c hc => ?_⟩
      have D3 := (Dr.refl D2.t).new (o := .lst [.int 0, .int 1, .int 2, .int 0, .int 1, .int 3]) hc
      refine ⟨_, rfl, p, l, _, rfl, D3.t, by decide, by decide, fun r H4 hr4 D4 => ?_⟩
      have hc4 : H4 c = some (.lst [.int 0, .int 1, .int 2, .int 0, .int 1, .int 3]) := D4.keep (D2.t.off hc).p upd_same
      obtain ⟨ar, har, e⟩ := six (.inl rfl) hr4
      refine ⟨c, _, r, .int ar, rfl, rfl, .inl (.inl hc4), e, ?_⟩
      refine ⟨szl (show 2 ≤ 100000 by decide), fun t ht => ?_⟩
      have D5 := ((D.trans D2).trans (D3.trans D4)).new (o := .tup [.str z, .int ar]) ht
      have D25 := (D2.trans (D3.trans D4)).new (o := .tup [.str z, .int ar]) ht
      have hx5 : upd H4 t (.tup [.str z, .int ar]) a = some (.lst xs) := D25.keep oa.p hx
      refine ⟨a, xs, _, rfl, rfl, hx5, szs (by omega), ?_⟩
      refine ⟨xs ++ [.ref t], some (.int (0 + (i : Int))), some (.str z), rfl, D5.mut ha0 oa, upd_same, by rw [List.length_append, hl]; rfl, ?_⟩
      have k5 : Tk K H' (upd H4 t (.tup [.str z, .int ar])) := D25.tk D.t
      have k6 : Tk K (upd H4 t (.tup [.str z, .int ar])) (upd (upd H4 t (.tup [.str z, .int ar])) a (.lst (xs ++ [.ref t]))) := Tk.xb hx5 rfl Xb.upd
      refine Syms.snoc (hS.up (k5.trans k6)) ⟨t, z, ar, rfl, k6 _ _ (.inl (.inl upd_same)), ok_nm oz (by decide), har⟩
    · rintro σ' H' ⟨xs, x, y, rfl, D, hx, hl, hS⟩
      rw [Int.toNat_natCast] at hl
      obtain ⟨v0, e0⟩ : ∃ v0, xs[0]? = some v0 := ⟨_, List.getElem?_eq_getElem (by omega)⟩
      obtain ⟨r0, nm, ar, rfl, hr0, on, _⟩ := hS v0 (List.mem_of_getElem? e0)
      refine ⟨_, rfl, .inl ⟨rfl, _, .inl (.inl hx)⟩, ?_⟩
      refine ⟨_, rfl, a, xs, 0, .ref r0, rfl, rfl, .inl (.inl hx), atI_nat (j := 0) e0, r0, _, 0, .str nm, rfl, rfl, hr0, at0, ?_⟩
      refine ⟨szl (show 2 ≤ 100000 by decide), fun t ht => ?_⟩
      have D5 := D.new (o := .tup [.str nm, .int 0]) ht
      have hx5 : upd H' t (.tup [.str nm, .int 0]) a = some (.lst xs) := (Ex.new ht) _ _ hx
      refine ⟨a, xs, _, rfl, rfl, hx5, szs (by omega), ?_⟩
      have k5 : Tk K H' (upd H' t (.tup [.str nm, .int 0])) := Tk.upd ht
      have k6 : Tk K (upd H' t (.tup [.str nm, .int 0])) (upd (upd H' t (.tup [.str nm, .int 0])) a (.lst (xs ++ [.ref t]))) := Tk.xb hx5 rfl Xb.upd
      refine ⟨_, rfl, ?_⟩
      exact q a _ _ (D5.mut ha0 oa) ha0 upd_same (by rw [List.length_append, hl]; rfl) (Syms.snoc (hS.up (k5.trans k6)) ⟨t, nm, 0, rfl, k6 _ _ (.inl (.inl upd_same)), on, by decide⟩)
def spRelations (K : PySem.W.Frag) : Pr := fun vs H Q => ∃ (p l : Addr) (m : Nat), vs = [.ref p, .int m] ∧ Tape H p l ∧ m ≤ 20 ∧ ∀ (q : Addr) (xs : List V) H', Dr p l H H' → H q = none → H' q = some (.lst xs) → xs.length = m → Syms K H' xs → Q (.ref q) H'
abbrev N_law_relations : List Str := ["_law_tape_here", "_law_many", "_law_relations_here", "_law_k"]
theorem sc__law_relations : FnScope N_law_relations ["_law_tape_here", "_law_many"] (defScope s_law_relations) := ⟨rfl, rfl, rfl, by decide +kernel, rfl, by decide +kernel, by decide +kernel⟩
theorem ok__law_relations (F : FnP K "_law_relations" s_law_relations f) (Tx : Top mg) (h_law_draw : Has P w K mg base k "_law_draw" 2 spDraw) (h_law_word : Has P w K mg base k "_law_word" 2 spWord) : FnG P w K mg base (k + 1) f 2 (spRelations K) := by
  refine F.ok sc__law_relations (fun _ _ _ _ _ _ us hl => match us, hl with | [_, _], _ => rfl) (fun vs H Q h => ?_) (fun cdv A outer s H vs Q hr hG h => ?_)
  · obtain ⟨p, l, m, rfl, _⟩ := h
    rfl
  · have nd := sc__law_relations.nd
    obtain ⟨p, l, m, rfl, hT, h2, q⟩ := h
    refine ⟨_, ((pss_cons (ps_set (i := 2) nd rfl (Or.inl rfl) (pe_lst pa_nil))
  (pss_cons (ps_for PassesOwn.never rfl (pi_range1 (by rfl) Tx.range (pa_cons (pv 1) pa_nil)) (pg_name (i := 3) nd rfl (Or.inl rfl))
    (pss_one (ps_expr (pe_bm PySem.F.plainAttrs_list PySem.F.slot_list_append PySem.F.type_list_append mt_append (pv 2) (pa_cons (pe_tup (pa_cons (pe_own h_law_word hr hG (by rfl) (pa_cons (pv 0) (pa_cons pe_str pa_nil))) (pa_cons (pe_ix ix_list (pe_lst (pa_cons pe_int (pa_cons pe_int (pa_cons pe_int (pa_cons pe_int (pa_cons pe_int (pa_cons pe_int pa_nil))))))) (pe_own h_law_draw hr hG (by rfl) (pa_cons (pv 0) (pa_cons pe_int pa_nil))) (fun _ _ => rfl)) pa_nil))) pa_nil)))))
  (pss_one (ps_ret (pv 2)))))), ?_⟩
    refine ⟨szl (Nat.zero_le _), fun a ha => ?_⟩
    have oa : Off a p l := hT.off ha
    refine ⟨_, rfl, m, rfl, by omega, by omega, ?_⟩
    refine for_range (lo := 0) (n := (m : Int).toNat) (fun i σ' H' => ∃ (xs : List V) (x : Option V), σ' = [some (.ref p), some (.int m), some (.ref a), x] ∧ Dr p l H H' ∧ H' a = some (.lst xs) ∧ xs.length = i ∧ Syms K H' xs)
      ⟨[], none, rfl, (Dr.refl hT).new ha, upd_same, rfl, fun v hv => by cases hv⟩ ?_ ?_
    · rintro i σ' H' hi ⟨xs, x, rfl, D, hx, hl, hS⟩
      refine ⟨_, rfl, .inl ⟨rfl, _, .inl (.inl hx)⟩, ?_⟩
      refine ⟨_, rfl, p, l, "", rfl, D.t, by constructor <;> decide +kernel, fun z H2 oz D2 => ?_⟩
      refine ⟨szl (show 6 ≤ 100000 by decide), fun c hc => ?_⟩
      have D3 := (Dr.refl D2.t).new (o := .lst [.int 1, .int 2, .int 1, .int 2, .int 3, .int 0]) hc
      refine ⟨_, rfl, p, l, _, rfl, D3.t, by decide, by decide, fun r H4 hr4 D4 => ?_⟩
      have hc4 : H4 c = some (.lst [.int 1, .int 2, .int 1, .int 2, .int 3, .int 0]) := D4.keep (D2.t.off hc).p upd_same
      obtain ⟨ar, har, e⟩ := six (.inr (.inl rfl)) hr4
      refine ⟨c, _, r, .int ar, rfl, rfl, .inl (.inl hc4), e, ?_⟩
      refine ⟨szl (show 2 ≤ 100000 by decide), fun t ht => ?_⟩
      have D25 := (D2.trans (D3.trans D4)).new (o := .tup [.str z, .int ar]) ht
      have D5 := D.trans D25
      have hx5 : upd H4 t (.tup [.str z, .int ar]) a = some (.lst xs) := D25.keep oa.p hx
      refine ⟨a, xs, _, rfl, rfl, hx5, szs (by omega), ?_⟩
      refine ⟨xs ++ [.ref t], some (.int (0 + (i : Int))), rfl, D5.mut ha oa, upd_same, by rw [List.length_append, hl]; rfl, ?_⟩
      have k5 : Tk K H' (upd H4 t (.tup [.str z, .int ar])) := D25.tk D.t
      have k6 : Tk K (upd H4 t (.tup [.str z, .int ar])) (upd (upd H4 t (.tup [.str z, .int ar])) a (.lst (xs ++ [.ref t]))) := Tk.xb hx5 rfl Xb.upd
      refine Syms.snoc (hS.up (k5.trans k6)) ⟨t, z, ar, rfl, k6 _ _ (.inl (.inl upd_same)), ok_nm oz (by decide), har⟩
    · rintro σ' H' ⟨xs, x, rfl, D, hx, hl, hS⟩
      rw [Int.toNat_natCast] at hl
      exact ⟨_, rfl, q a _ _ D ha hx hl hS⟩

end
end Orl
set_option Elab.async false
set_option linter.all false
set_option maxRecDepth 100000
set_option maxHeartbeats 4000000
namespace Orl
open PySem PySem.Spec PyProof.Rows L2
section
variable {P : Program} {w : World} {K : PySem.W.Frag} {mg : Str → Option Value} {base : Heap} {k : Nat} {f : Addr}
/-! _law_names -/
theorem flat_strs : ∀ ns : List Str, (ns.map V.str).all flatV = true
  | [] => rfl
  | n :: r => by rw [List.map_cons, List.all_cons, flat_strs r]; rfl
theorem small_str : ∀ j : Nat, j < 30 → ((toString (j : Int) : Str)).length ≤ 2 ∧ ((j : Int)).natAbs.log2 < 1920 := by decide +kernel
def spNames : Pr := fun vs H Q => ∃ (p l : Addr) (m : Nat), vs = [.ref p, .int m] ∧ Tape H p l ∧ m ≤ 20 ∧ ∀ (q : Addr) (ns : List Str) H', Dr p l H H' → H q = none → H' q = some (.lst (ns.map V.str)) → ns.length = m → Q (.ref q) H'
abbrev N_law_names : List Str := ["_law_tape_here", "_law_many", "_law_stem", "_law_names_here", "_law_k", "_law_base", "_law_name", "_law_j"]
theorem sc__law_names : FnScope N_law_names ["_law_tape_here", "_law_many"] (defScope s_law_names) := ⟨rfl, rfl, rfl, by decide +kernel, rfl, by decide +kernel, by decide +kernel⟩
theorem ok__law_names (F : FnP K "_law_names" s_law_names f) (Tx : Top mg) (h_law_draw : Has P w K mg base k "_law_draw" 2 spDraw) (h_law_word : Has P w K mg base k "_law_word" 2 spWord) : FnG P w K mg base (k + 1) f 2 spNames := by
  refine F.ok sc__law_names (fun _ _ _ _ _ _ us hl => match us, hl with | [_, _], _ => rfl) (fun vs H Q h => ?_) (fun cdv A outer s H vs Q hr hG h => ?_)
  · obtain ⟨p, l, m, rfl, _⟩ := h
    rfl
  · have nd := sc__law_names.nd
    obtain ⟨p, l, m, rfl, hT, h2, q⟩ := h
    refine ⟨_, ((pss_cons (ps_set (i := 2) nd rfl (Or.inl rfl) (pe_ix ix_list (pe_lst (pa_cons pe_str (pa_cons pe_str (pa_cons pe_str pa_nil)))) (pe_own h_law_draw hr hG (by rfl) (pa_cons (pv 0) (pa_cons pe_int pa_nil))) (fun _ _ => rfl)))
  (pss_cons (ps_set (i := 3) nd rfl (Or.inl rfl) (pe_lst pa_nil))
  (pss_cons (ps_for PassesOwn.never rfl (pi_range1 (by rfl) Tx.range (pa_cons (pv 1) pa_nil)) (pg_name (i := 4) nd rfl (Or.inl rfl))
    (pss_cons (ps_set (i := 5) nd rfl (Or.inl rfl) (pe_own h_law_word hr hG (by rfl) (pa_cons (pv 0) (pa_cons (pv 2) pa_nil))))
  (pss_cons (ps_set (i := 6) nd rfl (Or.inl rfl) (pv 5))
  (Evl.pss_cut (ps_for PassesOwn.never rfl (pi_range1 (by rfl) Tx.range (pa_cons (pe_op op_add (pv 1) pe_int) pa_nil)) (pg_name (i := 7) nd rfl (Or.inl rfl))
    (pss_cons (ps_if (PW.pt (pw_and (pt_cmpR op_notIn_seq (pv 6) (pv 3) (by rfl)) (pw_and1 (pt_cmpR op_ne (pv 6) pe_str (nomark _)))))
    (pss_one ps_break)
    pss_nil)
  (pss_one (ps_set (i := 6) nd rfl (Or.inl rfl) (pe_op op_add_str (pe_op op_add_str (pe_slice sl_str (pv 5) po_none (po_some pe_int)) pe_str) (pe_callTy call_str_int (by rfl) Tx.str (by decide +kernel) (pa_cons (pv 7) pa_nil)))))))
  (pss_one (ps_expr (pe_bm PySem.F.plainAttrs_list PySem.F.slot_list_append PySem.F.type_list_append mt_append (pv 3) (pa_cons (pv 6) pa_nil))))))))
  (pss_one (ps_ret (pv 3))))))), ?_⟩
    refine ⟨szl (show 3 ≤ 100000 by decide), fun b hb => ?_⟩
    have D0 := (Dr.refl hT).new (o := .lst [.str "", .str "ref", .str "ruleOfSymbols"]) hb
    refine ⟨_, rfl, p, l, _, rfl, D0.t, by decide, by decide, fun r H1 hr1 D1 => ?_⟩
    have D1' := D0.trans D1
    have hb1 : H1 b = some (.lst [.str "", .str "ref", .str "ruleOfSymbols"]) := D1.keep (hT.off hb).p upd_same
    obtain ⟨st, hst, ok⟩ : ∃ st : Str, atI [V.str "", V.str "ref", V.str "ruleOfSymbols"] (r : Int) = some (.str st) ∧ Ok st 13 := by
      have : r = 0 ∨ r = 1 ∨ r = 2 := by omega
      rcases this with rfl | rfl | rfl
      · exact ⟨"", rfl, by constructor <;> decide +kernel⟩
      · exact ⟨"ref", rfl, by constructor <;> decide +kernel⟩
      · exact ⟨"ruleOfSymbols", rfl, by constructor <;> decide +kernel⟩
    refine ⟨b, _, r, .str st, rfl, rfl, .inl (.inl hb1), hst, ?_⟩
    refine ⟨szl (Nat.zero_le _), fun a ha => ?_⟩
    have ha0 : H a = none := D1'.fresh ha
    have oa : Off a p l := hT.off ha0
    refine ⟨_, rfl, m, rfl, by omega, by omega, ?_⟩
    refine for_range (lo := 0) (n := (m : Int).toNat) (fun i σ' H' => ∃ (ns : List Str) (x y z u : Option V), σ' = [some (.ref p), some (.int m), some (.str st), some (.ref a), x, y, z, u] ∧ Dr p l H H' ∧ H' a = some (.lst (ns.map V.str)) ∧ ns.length = i)
      ⟨[], none, none, none, none, rfl, D1'.new ha, upd_same, rfl⟩ ?_ ?_
    · rintro i σ' H' hi ⟨ns, x, y, z, u, rfl, D, hx, hl⟩
      refine ⟨_, rfl, _, rfl, p, l, st, rfl, D.t, ok, fun bs H2 ob D2 => ?_⟩
      have hx2 : H2 a = some (.lst (ns.map V.str)) := D2.keep oa.p hx
      refine ⟨_, rfl, ?_⟩
      refine ⟨fun σ' H' => H' = H2 ∧ ∃ (nm : Str) (y : Option V), σ' = [some (.ref p), some (.int m), some (.str st), some (.ref a), some (.int (0 + (i : Int))), some (.str bs), some (.str nm), y], ?_, ?_⟩
      · refine ⟨_, rfl, _, _, rfl, rfl, _, rfl, by omega, by omega, ?_⟩
        refine for_range (lo := 0) (n := ((m : Int) + 2).toNat) (fun j σ' H' => H' = H2 ∧ ∃ (nm : Str) (y : Option V), σ' = [some (.ref p), some (.int m), some (.str st), some (.ref a), some (.int (0 + (i : Int))), some (.str bs), some (.str nm), y])
          ⟨rfl, bs, _, rfl⟩ ?_ ?_
        · rintro j σ' H' hj ⟨rfl, nm, y, rfl⟩
          refine ⟨_, rfl, _, rfl, a, _, rfl, .inl (.inl (.inl hx2)), rfl, flat_strs ns, _, rfl, ?_⟩
          have step : ∀ D : Ends, (∀ nm, D.nx [some (.ref p), some (.int m), some (.str st), some (.ref a), some (.int (0 + (i : Int))), some (.str bs), some (.str nm), some (.int (0 + (j : Int)))] H') →
              tAsg (tOp (fun x y H Q => ∃ i j, x = V.str i ∧ y = V.str j ∧ i.length + j.length ≤ sizeLine ∧ Q (V.str (i ++ j)) H) (tOp (fun x y H Q => ∃ i j, x = V.str i ∧ y = V.str j ∧ i.length + j.length ≤ sizeLine ∧ Q (V.str (i ++ j)) H) (tSl rSlS (tVar 5) tNoPart (tPart (tC (.int 13)))) (tC (.str "q")))
                (tCB (fun xs H Q => ∃ i, xs = [V.int i] ∧ i.natAbs.log2 < 1920 ∧ Q (V.str (toString i)) H) (tCons (tVar 7) tNil))) (gName 6) D [some (.ref p), some (.int m), some (.str st), some (.ref a), some (.int (0 + (i : Int))), some (.str bs), some (.str nm), some (.int (0 + (j : Int)))] H' := by
            intro D hD
            have sj := small_str j (by omega)
            have oc := ok_cut (lo := none) (hi := some 13) ob
            have e0 : (0 : Int) + (j : Int) = (j : Int) := by omega
            refine ⟨_, rfl, _, rfl, bs, rfl, szl (Nat.le_trans (ok_len ob) (by decide)), _, _, rfl, rfl, szl (by have := ok_len oc; have : ("q" : Str).length = 1 := rfl; omega), ?_⟩
            refine ⟨_, rfl, _, rfl, by rw [e0]; exact sj.2, _, _, rfl, rfl, szl ?_, hD _⟩
            rw [e0, PySem.strLen_append]
            have := ok_len oc
            have : ("q" : Str).length = 1 := rfl
            omega
          cases hin : inV (.str nm) (ns.map V.str) with
          | true =>
            refine iteF ?_
            exact step _ fun nm' => ⟨rfl, nm', _, rfl⟩
          | false =>
            refine iteT ?_
            refine ⟨_, rfl, rfl, _, rfl, ?_⟩
            cases hne : decide (V.str nm = V.str "refl") with
            | false => exact ⟨rfl, nm, _, rfl⟩
            | true => exact step _ fun nm' => ⟨rfl, nm', _, rfl⟩
        · rintro σ' H' ⟨rfl, nm, y, rfl⟩
          exact ⟨rfl, nm, y, rfl⟩
      · rintro σ' H' ⟨rfl, nm, y, rfl⟩
        refine ⟨_, rfl, .inl ⟨rfl, _, .inl (.inl hx2)⟩, ?_⟩
        refine ⟨_, rfl, a, _, _, rfl, rfl, hx2, szs (by rw [List.length_map]; omega), ?_⟩
        refine ⟨ns ++ [nm], _, _, _, _, rfl, (D.trans D2).mut ha0 oa, ?_, by rw [List.length_append, hl]; rfl⟩
        rw [upd_same, List.map_append]
        rfl
    · rintro σ' H' ⟨ns, x, y, z, u, rfl, D, hx, hl⟩
      rw [Int.toNat_natCast] at hl
      exact ⟨_, rfl, q a ns _ D ha0 hx hl⟩

end
end Orl
set_option Elab.async false
set_option linter.all false
set_option maxRecDepth 100000
set_option maxHeartbeats 4000000
namespace Orl
open PySem PySem.Spec PyProof.Rows L2
section
variable {P : Program} {w : World} {K : PySem.W.Frag} {mg : Str → Option Value} {base : Heap} {k : Nat} {f : Addr}
/-! comprehensions: what is walked, what is made -/
/-- J walks the items xs wherever F holds -/
def Ys (J : It) (F : Hp → Prop) (xs : List V) : Prop := ∀ (i : Nat) (H' : Hp), F H' → (i < xs.length → J.go i H') ∧ (xs.length ≤ i → J.stop i H') ∧ ∀ x H'', i < xs.length → J.yld i H' x H'' → H'' = H' ∧ xs[i]? = some x
theorem ys_tup {a : Addr} {xs : List V} {F : Hp → Prop} (h : ∀ H', F H' → SqT K H' a xs) : Ys (Itt K a) F xs := fun i H' hF =>
  ⟨fun hi => ⟨xs, xs[i], h H' hF, List.getElem?_eq_getElem hi⟩, fun hi => ⟨xs, h H' hF, hi⟩, fun x H'' _ ⟨e, y⟩ => ⟨e, y xs (e ▸ h H' hF)⟩⟩
theorem ys_list {a : Addr} {xs : List V} {F : Hp → Prop} (h : ∀ H', F H' → SqL K H' a xs) : Ys (Itl K a) F xs := fun i H' hF =>
  ⟨fun hi => ⟨xs, xs[i], h H' hF, List.getElem?_eq_getElem hi⟩, fun hi => ⟨xs, h H' hF, hi⟩, fun x H'' _ ⟨e, y⟩ => ⟨e, y xs (e ▸ h H' hF)⟩⟩
def rangeV (n : Nat) : List V := (List.range n).map fun (i : Nat) => V.int (i : Int)
theorem rangeV_len (n : Nat) : (rangeV n).length = n := by unfold rangeV; rw [List.length_map, List.length_range]
theorem rangeV_get {n i : Nat} (h : i < n) : (rangeV n)[i]? = some (.int (i : Int)) := by
  unfold rangeV
  rw [List.getElem?_map, List.getElem?_range h]
  rfl
theorem ys_range {n : Nat} {F : Hp → Prop} : Ys (Itr 0 n) F (rangeV n) := fun i H' _ => by
  rw [rangeV_len]
  refine ⟨fun hi => hi, fun hi => hi, ?_⟩
  rintro x H'' hi ⟨e, rfl⟩
  refine ⟨e, ?_⟩
  rw [rangeV_get hi]
  simp
/-- [e for x in xs], whatever is known: F of the heap, R of the list so far -/
theorem lc_gen {J : It} {te : TE} {σ : L2.St} {vs : List Nat} {j : Nat} {D : Addr} {Qd : Hp → Prop} {xs : List V} (F : Hp → Prop) (R : Hp → List V → Prop) (ys : Ys J F xs) (hz : xs.length ≤ 100000)
    (hw : ∀ x, wipe ((wipe σ vs).set j (some x)) vs = wipe σ vs) {H1 : Hp} (h0 : F (upd H1 D (.lst [])) ∧ R (upd H1 D (.lst [])) [])
    (step : ∀ (i : Nat) (x : V) (H' : Hp) (acc : List V) (Qk : VK), xs[i]? = some x → F H' → H' D = some (.lst acc) → acc.length = i → R H' acc →
      (∀ y H'', H'' D = some (.lst acc) → F (upd H'' D (.lst (acc ++ [y]))) → R (upd H'' D (.lst (acc ++ [y]))) (acc ++ [y]) → Qk y H'') → te ((wipe σ vs).set j (some x)) H' Qk)
    (done : ∀ H' acc, F H' → H' D = some (.lst acc) → acc.length = xs.length → R H' acc → Qd H') :
    ∃ W : Nat → Nat → Hp → Prop, (∃ m, W 0 m (upd H1 D (.lst []))) ∧ ∀ i m H, W i m H →
      (J.stop i H ∧ Qd H) ∨ (J.go i H ∧ ∃ Nx : Hp → Prop, (∀ H', Nx H' → ∃ m', m' < m ∧ W (i + 1) m' H') ∧ ∀ x H', J.yld i H x H' → gName j x (wipe σ vs) H' fun σ2 H2 => wipe σ2 vs = wipe σ vs ∧ tYes σ2 H2 fun b H3 =>
        if b = true then te σ2 H3 fun y H4 => ∃ acc, H4 D = some (.lst acc) ∧ acc.length < sizeLine ∧ Nx (upd H4 D (.lst (acc ++ [y]))) else Nx H3) := by
  refine ⟨fun i m H' => i + m = xs.length ∧ F H' ∧ ∃ acc, H' D = some (.lst acc) ∧ acc.length = i ∧ R H' acc, ⟨xs.length, by simp, h0.1, [], upd_same, rfl, h0.2⟩, ?_⟩
  rintro i m H' ⟨e, hF, acc, hD, hl, hR⟩
  obtain ⟨y1, y2, y3⟩ := ys i H' hF
  cases m with
  | zero => exact .inl ⟨y2 (by omega), done H' acc hF hD (by omega) hR⟩
  | succ m =>
    refine .inr ⟨y1 (by omega), fun H' => F H' ∧ ∃ acc, H' D = some (.lst acc) ∧ acc.length = i + 1 ∧ R H' acc, fun H2 q => ⟨m, Nat.lt_succ_self _, by omega, q⟩, ?_⟩
    intro x H2 hy
    obtain ⟨rfl, hx⟩ := y3 x H2 (by omega) hy
    refine ⟨hw x, ?_⟩
    simp only [tYes, if_true]
    refine step i x H2 acc _ hx hF hD hl hR fun y H3 h1 h2 h3 => ⟨acc, h1, szs (by omega), h2, acc ++ [y], upd_same, by rw [List.length_append, hl]; rfl, h3⟩
/-- .. where all that stood stays -/
theorem lc_ex {J : It} {te : TE} {σ : L2.St} {vs : List Nat} {j : Nat} {D : Addr} {Qd : Hp → Prop} {xs : List V} {H1 : Hp} (R : Hp → Nat → V → Prop) (mono : ∀ H H' i y, Tk K H H' → R H i y → R H' i y) (ys : Ys J (Ex H1) xs) (hz : xs.length ≤ 100000)
    (hw : ∀ x, wipe ((wipe σ vs).set j (some x)) vs = wipe σ vs)
    (step : ∀ (i : Nat) (x : V) (H' : Hp) (Qk : VK), xs[i]? = some x → Ex H1 H' → (∀ y H'', Ex H' H'' → R H'' i y → Qk y H'') → te ((wipe σ vs).set j (some x)) H' Qk)
    (hD : H1 D = none) (done : ∀ H' acc, Ex H1 H' → H' D = some (.lst acc) → acc.length = xs.length → (∀ i y, acc[i]? = some y → R H' i y) → Qd H') :
    ∃ W : Nat → Nat → Hp → Prop, (∃ m, W 0 m (upd H1 D (.lst []))) ∧ ∀ i m H, W i m H →
      (J.stop i H ∧ Qd H) ∨ (J.go i H ∧ ∃ Nx : Hp → Prop, (∀ H', Nx H' → ∃ m', m' < m ∧ W (i + 1) m' H') ∧ ∀ x H', J.yld i H x H' → gName j x (wipe σ vs) H' fun σ2 H2 => wipe σ2 vs = wipe σ vs ∧ tYes σ2 H2 fun b H3 =>
        if b = true then te σ2 H3 fun y H4 => ∃ acc, H4 D = some (.lst acc) ∧ acc.length < sizeLine ∧ Nx (upd H4 D (.lst (acc ++ [y]))) else Nx H3) := by
  refine lc_gen (Ex H1) (fun H' acc => ∀ i y, acc[i]? = some y → R H' i y) ys hz hw ⟨Ex.new hD, fun i y h => by simp at h⟩ ?_ ?_
  · rintro i x H' acc Qk hx hE hDa hl hR q
    refine step i x H' Qk hx hE fun y H'' e r => ?_
    have hD2 : H'' D = some (.lst acc) := e _ _ hDa
    have k : Tk K H'' (upd H'' D (.lst (acc ++ [y]))) := Tk.xb hD2 rfl Xb.upd
    refine q y H'' hD2 ((hE.trans e).mutN hD) fun i' y' h' => ?_
    by_cases hi : i' < acc.length
    · rw [List.getElem?_append_left hi] at h'
      exact mono _ _ _ _ ((Tk.ex e).trans k) (hR i' y' h')
    · have hlen := (List.getElem?_eq_some_iff.mp h').1
      rw [List.length_append] at hlen
      have hi2 : i' = acc.length := by
        have : ([y] : List V).length = 1 := rfl
        omega
      subst hi2
      rw [List.getElem?_append_right (Nat.le_refl _), Nat.sub_self] at h'
      have e2 : y = y' := Option.some.inj h'
      subst e2
      rw [hl]
      exact mono _ _ _ _ k r
  · intro H' acc hE hDa hl hR
    exact done H' acc hE hDa hl hR
/-- .. where each item is drawn -/
theorem lc_dr {J : It} {te : TE} {σ : L2.St} {vs : List Nat} {j : Nat} {D : Addr} {Qd : Hp → Prop} {xs : List V} {H1 : Hp} {p l : Addr} (hT : Tape H1 p l) (R : Hp → Nat → V → Prop) (mono : ∀ H H' i y, Tk K H H' → R H i y → R H' i y) (ys : Ys J (Dr p l H1) xs) (hz : xs.length ≤ 100000)
    (hw : ∀ x, wipe ((wipe σ vs).set j (some x)) vs = wipe σ vs)
    (step : ∀ (i : Nat) (x : V) (H' : Hp) (Qk : VK), xs[i]? = some x → Dr p l H1 H' → (∀ y H'', Dr p l H' H'' → R H'' i y → Qk y H'') → te ((wipe σ vs).set j (some x)) H' Qk)
    (hD : H1 D = none) (done : ∀ H' acc, Dr p l H1 H' → H' D = some (.lst acc) → acc.length = xs.length → (∀ i y, acc[i]? = some y → R H' i y) → Qd H') :
    ∃ W : Nat → Nat → Hp → Prop, (∃ m, W 0 m (upd H1 D (.lst []))) ∧ ∀ i m H, W i m H →
      (J.stop i H ∧ Qd H) ∨ (J.go i H ∧ ∃ Nx : Hp → Prop, (∀ H', Nx H' → ∃ m', m' < m ∧ W (i + 1) m' H') ∧ ∀ x H', J.yld i H x H' → gName j x (wipe σ vs) H' fun σ2 H2 => wipe σ2 vs = wipe σ vs ∧ tYes σ2 H2 fun b H3 =>
        if b = true then te σ2 H3 fun y H4 => ∃ acc, H4 D = some (.lst acc) ∧ acc.length < sizeLine ∧ Nx (upd H4 D (.lst (acc ++ [y]))) else Nx H3) := by
  have oD := hT.off hD
  refine lc_gen (Dr p l H1) (fun H' acc => ∀ i y, acc[i]? = some y → R H' i y) ys hz hw ⟨(Dr.refl hT).new hD, fun i y h => by simp at h⟩ ?_ ?_
  · rintro i x H' acc Qk hx hE hDa hl hR q
    refine step i x H' Qk hx hE fun y H'' e r => ?_
    have hD2 : H'' D = some (.lst acc) := e.keep oD.p hDa
    have k : Tk K H'' (upd H'' D (.lst (acc ++ [y]))) := Tk.xb hD2 rfl Xb.upd
    refine q y H'' hD2 ((hE.trans e).mut hD oD) fun i' y' h' => ?_
    by_cases hi : i' < acc.length
    · rw [List.getElem?_append_left hi] at h'
      exact mono _ _ _ _ ((e.tk hE.t).trans k) (hR i' y' h')
    · have hlen := (List.getElem?_eq_some_iff.mp h').1
      rw [List.length_append] at hlen
      have hi2 : i' = acc.length := by
        have : ([y] : List V).length = 1 := rfl
        omega
      subst hi2
      rw [List.getElem?_append_right (Nat.le_refl _), Nat.sub_self] at h'
      have e2 : y = y' := Option.some.inj h'
      subst e2
      rw [hl]
      exact mono _ _ _ _ k r
  · intro H' acc hE hDa hl hR
    exact done H' acc hE hDa hl hR
/-- place by place -/
theorem paired_of {R : V → T → Prop} : ∀ {acc : List V} {ts : List T}, acc.length = ts.length → (∀ (i : Nat) (y : V) (t : T), acc[i]? = some y → ts[i]? = some t → R y t) → Paired R acc ts
  | [], [], _, _ => .nil
  | [], _ :: _, h, _ => by cases h
  | _ :: _, [], h, _ => by cases h
  | y :: acc, t :: ts, h, f => .cons (f 0 y t rfl rfl) (paired_of (by simpa using h) fun i y' t' h1 h2 => f (i + 1) y' t' (by simpa using h1) (by simpa using h2))
theorem cut1 (x : V) (xs : List V) : cutV (x :: xs) (some 1) none = xs := cut_drop (x :: xs) 1 (by simp)
theorem six1 {x : V} {xs : List V} {A : Prop} (h : HT.sIx (x :: xs).length 0 (some 1) = 0 ∧ A) : False := absurd (h.1.symm.trans (HT.sIx_nat (x :: xs).length 0 1)) (by simp)
/-- what the sum (x,) + t asks -/
theorem cat_parts {K : PySem.W.Frag} {H : Hp} {a b : Addr} {x : V} {xs : List V} (Q : VK) (ha : SqT K H a [x]) (hb : SqT K H b xs) (hz : xs.length ≤ 90000) (q : ∀ p H', Ex H H' → SqT K H' p (x :: xs) → Q (.ref p) H') :
    [x].length + xs.length ≤ sizeLine ∧ ([x] = [] → Q (.ref b) H) ∧ ([x] ≠ [] → xs = [] → Q (.ref a) H) ∧ ([x] ≠ [] → xs ≠ [] → ∀ p, H p = none → Q (.ref p) (upd H p (.tup ([x] ++ xs)))) := by
  refine ⟨szl (by simp; omega), (fun z => by cases z), ?_, ?_⟩
  · rintro _ rfl
    exact q a H (Ex.refl H) ha
  · intro _ _ p hp
    exact q p _ (Ex.new hp) (.inl (.inl upd_same))

end
end Orl
set_option Elab.async false
set_option linter.all false
set_option maxRecDepth 100000
set_option maxHeartbeats 4000000
namespace Orl
open PySem PySem.Spec PyProof.Rows L2
section
variable {P : Program} {w : World} {K : PySem.W.Frag} {mg : Str → Option Value} {base : Heap} {k : Nat} {f : Addr}
/-! replaced, _law_replaced, instance_of -/
/-- what the table at c puts for the variable n -/
def putAt (kvs : List (Key × V)) (n : Nat) : V := (valV kvs (Sum.inl (n : Int))).getD (.int n)
def spRepl (K : PySem.W.Frag) (d : Nat) : Pr := fun vs H Q => ∃ (v : V) (t : T) (c : Addr) (kvs : List (Key × V)) (s : Nat → T), vs = [v, .ref c] ∧ TA K H v t ∧ Fit t d ∧ H c = some (.dK kvs) ∧ (∀ n, Occ n t → TA K H (putAt kvs n) (s n)) ∧
  ∀ v' H', Ex H H' → TA K H' v' (sub s t) → Q v' H'
theorem subs_get {s : Nat → T} {ts : List T} {i : Nat} {t : T} (h : (subs s ts)[i]? = some t) : ∃ u, ts[i]? = some u ∧ t = sub s u := by
  rw [subs_map, List.getElem?_map] at h
  cases e : ts[i]? with
  | none => rw [e] at h; cases h
  | some u => rw [e] at h; exact ⟨u, rfl, (Option.some.inj h).symm⟩
abbrev Nreplaced : List Str := ["term", "table", "argument"]
theorem sc_replaced : FnScope Nreplaced ["term", "table"] (defScope s_replaced) := ⟨rfl, rfl, rfl, by decide +kernel, rfl, by decide +kernel, by decide +kernel⟩
theorem ok_replaced (F : FnP K "replaced" s_replaced f) (Tx : Top mg) (d : Nat) (h_replaced : 0 < d → Has P w K mg base k "replaced" 2 (spRepl K (d - 1))) : FnG P w K mg base (k + 1) f 2 (spRepl K d) := by
  by_cases hd : 0 < d
  · have h_replaced := h_replaced hd
    refine F.ok sc_replaced (fun _ _ _ _ _ _ us hl => match us, hl with | [_, _], _ => rfl) (fun vs H Q h => ?_) (fun cdv A outer s H vs Q hr hG h => ?_)
    · obtain ⟨v, t, c, kvs, s, rfl, _⟩ := h
      rfl
    · have nd := sc_replaced.nd
      obtain ⟨v, t, c, kvs, s, rfl, hv, hf, hc, hs, q⟩ := h
      refine ⟨_, ((pss_cons (ps_if (pt_val (pe_callB call_isi (by rfl) Tx.isinstance (by decide +kernel) (pa_cons (pv 0) (pa_cons (pe_bltn (v := .ty "int") (by rfl) Tx.int boot_int rfl) pa_nil))))
    (pss_one (ps_ret (pe_dget2 (hu_of hr) (pv 1) (pv 0) (pv 0) (by constructor <;> rfl))))
    pss_nil)
  (pss_one (ps_ret (pe_op op_catA (pe_tup (pa_cons (pe_ix ix_tup (pv 0) pe_int (fun _ _ => rfl)) pa_nil)) (pe_callTy call_tuple_of (by rfl) Tx.tuple (by decide +kernel) (pa_cons (pe_lc (own := [("argument", 2)]) (g := gName 2) (tt := tYes) rfl nd (pi_tup (pe_slice sl_tupA (pv 0) (po_some pe_int) po_none)) (blkOk_by (own := [("argument", 2)]) (N := Nreplaced) (sc := defScope s_replaced) (by decide +kernel)) (fun _ _ _ _ _ => pg_name (i := 2) nd rfl (Or.inl rfl)) (fun _ _ _ _ _ => pts_nil) (fun _ _ _ _ _ => (pe_own h_replaced hr hG (by rfl) (pa_cons (pv 2) (pa_cons (pv 1) pa_nil))))) pa_nil))))))), ?_⟩
      cases t with
      | v n =>
        obtain rfl := hv.inv_v
        refine ⟨_, rfl, _, _, _, _, true, rfl, .ty "int", .base (.int _), kit_ty (by decide +kernel), true, rfl, iteT ?_⟩
        refine ⟨_, rfl, c, rfl, .inl ⟨kvs, .inl hc⟩, _, rfl, _, rfl, _, DGet.k (k := Sum.inl (n : Int)) hc, ?_⟩
        exact q _ H (Ex.refl H) (hs n (by simp [Occ]))
      | a g ts =>
        obtain ⟨a, us, rfl, ha, hu⟩ := hv.inv_a
        refine ⟨_, rfl, _, _, _, _, false, rfl, .ty "int", tyx_tup ha, kit_ty (by decide +kernel), false, rfl, iteF ?_⟩
        simp only [Fit] at hf
        refine ⟨_, rfl, a, _, 0, .str g, rfl, rfl, ha, at0, szl (show 1 ≤ 100000 by decide), fun p hp => ?_⟩
        have e1 : Ex H (upd H p (.tup [.str g])) := Ex.new hp
        refine ⟨_, rfl, 1, rfl, ?_⟩
        refine ⟨a, _, rfl, Evl.ex_t e1 ha, fun z => (six1 z).elim, fun _ b hb => ?_⟩
        rw [cut1]
        have e2 : Ex (upd H p (.tup [.str g])) (upd (upd H p (.tup [.str g])) b (.tup us)) := Ex.new hb
        refine ⟨b, rfl, ⟨us, .inl (.inl upd_same)⟩, ?_⟩
        have hlen := Pa.len hu
        intro D hD
        refine lc_ex (xs := us) (fun H' i y => ∀ t, ts[i]? = some t → TA K H' y (sub s t)) (fun H H' i y k h t ht => (h t ht).up k) (ys_tup fun H' e => Evl.ex_t e (.inl (.inl upd_same))) (by omega) (by intro _; rfl) ?_ hD ?_
        · intro i x H' Qk hx e3 qk
          obtain ⟨t, ht, hxt⟩ := Pa.get' hu hx
          have e := (e1.trans e2).trans e3
          refine ⟨_, rfl, _, rfl, x, t, c, kvs, s, rfl, hxt.up (Tk.ex e), fits_iff.mp hf.2.2.2 t (List.mem_of_getElem? ht), e _ _ hc, fun n hn => (hs n ?_).up (Tk.ex e), ?_⟩
          · simp only [Occ]
            exact occs_iff.mpr ⟨t, List.mem_of_getElem? ht, hn⟩
          · intro v' H'' e4 hv'
            refine qk v' H'' e4 fun t' ht' => ?_
            rw [ht] at ht'
            rw [← Option.some.inj ht']
            exact hv'
        · intro H' acc e3 hDa hl hR
          refine ⟨D, acc, rfl, .inl ⟨.inl (.inl hDa), fun r hr => ?_⟩⟩
          have e := (e1.trans e2).trans e3
          have e5 : Ex H' (upd H' r (.tup acc)) := Ex.new hr
          have hts : TsA K H' acc (subs s ts) := by
            refine paired_of (by rw [hl, subs_map, List.length_map, hlen]) fun i y t hy ht => ?_
            obtain ⟨u, hu1, rfl⟩ := subs_get ht
            exact hR i y hy u hu1
          refine ⟨p, r, [.str g], acc, rfl, rfl, Evl.ex_t ((e2.trans e3).trans e5) (.inl (.inl upd_same)), .inl (.inl upd_same), ?_⟩
          refine cat_parts (K := K) Q (Evl.ex_t ((e2.trans e3).trans e5) (.inl (.inl upd_same))) (.inl (.inl upd_same)) (by omega) fun z H2 e6 hz => ?_
          refine q _ H2 ((e.trans e5).trans e6) ?_
          simp only [sub]
          exact TA.app hz (hts.up (Tk.ex (e5.trans e6)))
  · -- depth 0: variables alone
    refine F.ok sc_replaced (fun _ _ _ _ _ _ us hl => match us, hl with | [_, _], _ => rfl) (fun vs H Q h => ?_) (fun cdv A outer s H vs Q hr hG h => ?_)
    · obtain ⟨v, t, c, kvs, s, rfl, _⟩ := h
      rfl
    · have nd := sc_replaced.nd
      obtain ⟨v, t, c, kvs, s, rfl, hv, hf, hc, hs, q⟩ := h
      refine ⟨_, ((pss_cons (ps_if (pt_val (pe_callB call_isi (by rfl) Tx.isinstance (by decide +kernel) (pa_cons (pv 0) (pa_cons (pe_bltn (v := .ty "int") (by rfl) Tx.int boot_int rfl) pa_nil))))
    (pss_one (ps_ret (pe_dget2 (hu_of hr) (pv 1) (pv 0) (pv 0) (by constructor <;> rfl))))
    pss_nil)
  pss_never)), ?_⟩
      cases t with
      | v n =>
        obtain rfl := hv.inv_v
        refine ⟨_, rfl, _, _, _, _, true, rfl, .ty "int", .base (.int _), kit_ty (by decide +kernel), true, rfl, iteT ?_⟩
        refine ⟨_, rfl, c, rfl, .inl ⟨kvs, .inl hc⟩, _, rfl, _, rfl, _, DGet.k (k := Sum.inl (n : Int)) hc, ?_⟩
        exact q _ H (Ex.refl H) (hs n (by simp [Occ]))
      | a g ts =>
        simp only [Fit] at hf
        exact absurd hf.1 hd

end
end Orl
set_option Elab.async false
set_option linter.all false
set_option maxRecDepth 100000
set_option maxHeartbeats 4000000
namespace Orl
open PySem PySem.Spec PyProof.Rows L2
section
variable {P : Program} {w : World} {K : PySem.W.Frag} {mg : Str → Option Value} {base : Heap} {k : Nat} {f : Addr}
abbrev N_law_replaced : List Str := ["_law_term_here", "_law_table_here", "_law_part"]
theorem sc__law_replaced : FnScope N_law_replaced ["_law_term_here", "_law_table_here"] (defScope s_law_replaced) := ⟨rfl, rfl, rfl, by decide +kernel, rfl, by decide +kernel, by decide +kernel⟩
theorem ok__law_replaced (F : FnP K "_law_replaced" s_law_replaced f) (Tx : Top mg) (d : Nat) (h_law_replaced : 0 < d → Has P w K mg base k "_law_replaced" 2 (spRepl K (d - 1))) : FnG P w K mg base (k + 1) f 2 (spRepl K d) := by
  by_cases hd : 0 < d
  · have h_law_replaced := h_law_replaced hd
    refine F.ok sc__law_replaced (fun _ _ _ _ _ _ us hl => match us, hl with | [_, _], _ => rfl) (fun vs H Q h => ?_) (fun cdv A outer s H vs Q hr hG h => ?_)
    · obtain ⟨v, t, c, kvs, s, rfl, _⟩ := h
      rfl
    · have nd := sc__law_replaced.nd
      obtain ⟨v, t, c, kvs, s, rfl, hv, hf, hc, hs, q⟩ := h
      refine ⟨_, ((pss_cons (ps_if (pt_val (pe_callB call_isi (by rfl) Tx.isinstance (by decide +kernel) (pa_cons (pv 0) (pa_cons (pe_bltn (v := .ty "int") (by rfl) Tx.int boot_int rfl) pa_nil))))
    (pss_cons (ps_if (pt_cmp (pc_din (hu_of hr) (pv 0) (pv 1)))
    (pss_one (ps_ret (pe_dget (hu_of hr) (pv 1) (pv 0) (fun _ _ => rfl))))
    pss_nil)
  (pss_one (ps_ret (pv 0))))
    pss_nil)
  (pss_one (ps_ret (pe_op op_catA (pe_tup (pa_cons (pe_ix ix_tup (pv 0) pe_int (fun _ _ => rfl)) pa_nil)) (pe_callTy call_tuple_of (by rfl) Tx.tuple (by decide +kernel) (pa_cons (pe_lc (own := [("_law_part", 2)]) (g := gName 2) (tt := tYes) rfl nd (pi_tup (pe_slice sl_tupA (pv 0) (po_some pe_int) po_none)) (blkOk_by (own := [("_law_part", 2)]) (N := N_law_replaced) (sc := defScope s_law_replaced) (by decide +kernel)) (fun _ _ _ _ _ => pg_name (i := 2) nd rfl (Or.inl rfl)) (fun _ _ _ _ _ => pts_nil) (fun _ _ _ _ _ => (pe_own h_law_replaced hr hG (by rfl) (pa_cons (pv 2) (pa_cons (pv 1) pa_nil))))) pa_nil))))))), ?_⟩
      cases t with
      | v n =>
        obtain rfl := hv.inv_v
        refine ⟨_, rfl, _, _, _, _, true, rfl, .ty "int", .base (.int _), kit_ty (by decide +kernel), true, rfl, iteT ?_⟩
        refine ⟨_, rfl, _, rfl, c, _, rfl, DGet.k (k := Sum.inl (n : Int)) hc, _, rfl, ?_⟩
        have hn := hs n (by simp [Occ])
        unfold putAt at hn
        cases e : valV kvs (Sum.inl (n : Int)) with
        | none =>
          rw [e] at hn
          refine iteF ?_
          exact ⟨_, rfl, q _ H (Ex.refl H) hn⟩
        | some x =>
          rw [e] at hn
          refine iteT ?_
          refine ⟨_, rfl, _, rfl, c, x, rfl, ?_, q _ H (Ex.refl H) hn⟩
          rw [← e]
          exact DGet.k (k := Sum.inl (n : Int)) hc
      | a g ts =>
        obtain ⟨a, us, rfl, ha, hu⟩ := hv.inv_a
        refine ⟨_, rfl, _, _, _, _, false, rfl, .ty "int", tyx_tup ha, kit_ty (by decide +kernel), false, rfl, iteF ?_⟩
        simp only [Fit] at hf
        refine ⟨_, rfl, a, _, 0, .str g, rfl, rfl, ha, at0, szl (show 1 ≤ 100000 by decide), fun p hp => ?_⟩
        have e1 : Ex H (upd H p (.tup [.str g])) := Ex.new hp
        refine ⟨_, rfl, 1, rfl, ?_⟩
        refine ⟨a, _, rfl, Evl.ex_t e1 ha, fun z => (six1 z).elim, fun _ b hb => ?_⟩
        rw [cut1]
        have e2 : Ex (upd H p (.tup [.str g])) (upd (upd H p (.tup [.str g])) b (.tup us)) := Ex.new hb
        refine ⟨b, rfl, ⟨us, .inl (.inl upd_same)⟩, ?_⟩
        have hlen := Pa.len hu
        intro D hD
        refine lc_ex (xs := us) (fun H' i y => ∀ t, ts[i]? = some t → TA K H' y (sub s t)) (fun H H' i y k h t ht => (h t ht).up k) (ys_tup fun H' e => Evl.ex_t e (.inl (.inl upd_same))) (by omega) (by intro _; rfl) ?_ hD ?_
        · intro i x H' Qk hx e3 qk
          obtain ⟨t, ht, hxt⟩ := Pa.get' hu hx
          have e := (e1.trans e2).trans e3
          refine ⟨_, rfl, _, rfl, x, t, c, kvs, s, rfl, hxt.up (Tk.ex e), fits_iff.mp hf.2.2.2 t (List.mem_of_getElem? ht), e _ _ hc, fun n hn => (hs n ?_).up (Tk.ex e), ?_⟩
          · simp only [Occ]
            exact occs_iff.mpr ⟨t, List.mem_of_getElem? ht, hn⟩
          · intro v' H'' e4 hv'
            refine qk v' H'' e4 fun t' ht' => ?_
            rw [ht] at ht'
            rw [← Option.some.inj ht']
            exact hv'
        · intro H' acc e3 hDa hl hR
          refine ⟨D, acc, rfl, .inl ⟨.inl (.inl hDa), fun r hr => ?_⟩⟩
          have e := (e1.trans e2).trans e3
          have e5 : Ex H' (upd H' r (.tup acc)) := Ex.new hr
          have hts : TsA K H' acc (subs s ts) := by
            refine paired_of (by rw [hl, subs_map, List.length_map, hlen]) fun i y t hy ht => ?_
            obtain ⟨u, hu1, rfl⟩ := subs_get ht
            exact hR i y hy u hu1
          refine ⟨p, r, [.str g], acc, rfl, rfl, Evl.ex_t ((e2.trans e3).trans e5) (.inl (.inl upd_same)), .inl (.inl upd_same), ?_⟩
          refine cat_parts (K := K) Q (Evl.ex_t ((e2.trans e3).trans e5) (.inl (.inl upd_same))) (.inl (.inl upd_same)) (by omega) fun z H2 e6 hz => ?_
          refine q _ H2 ((e.trans e5).trans e6) ?_
          simp only [sub]
          exact TA.app hz (hts.up (Tk.ex (e5.trans e6)))
  · -- depth 0: variables alone
    refine F.ok sc__law_replaced (fun _ _ _ _ _ _ us hl => match us, hl with | [_, _], _ => rfl) (fun vs H Q h => ?_) (fun cdv A outer s H vs Q hr hG h => ?_)
    · obtain ⟨v, t, c, kvs, s, rfl, _⟩ := h
      rfl
    · have nd := sc__law_replaced.nd
      obtain ⟨v, t, c, kvs, s, rfl, hv, hf, hc, hs, q⟩ := h
      refine ⟨_, ((pss_cons (ps_if (pt_val (pe_callB call_isi (by rfl) Tx.isinstance (by decide +kernel) (pa_cons (pv 0) (pa_cons (pe_bltn (v := .ty "int") (by rfl) Tx.int boot_int rfl) pa_nil))))
    (pss_cons (ps_if (pt_cmp (pc_din (hu_of hr) (pv 0) (pv 1)))
    (pss_one (ps_ret (pe_dget (hu_of hr) (pv 1) (pv 0) (fun _ _ => rfl))))
    pss_nil)
  (pss_one (ps_ret (pv 0))))
    pss_nil)
  pss_never)), ?_⟩
      cases t with
      | v n =>
        obtain rfl := hv.inv_v
        refine ⟨_, rfl, _, _, _, _, true, rfl, .ty "int", .base (.int _), kit_ty (by decide +kernel), true, rfl, iteT ?_⟩
        refine ⟨_, rfl, _, rfl, c, _, rfl, DGet.k (k := Sum.inl (n : Int)) hc, _, rfl, ?_⟩
        have hn := hs n (by simp [Occ])
        unfold putAt at hn
        cases e : valV kvs (Sum.inl (n : Int)) with
        | none =>
          rw [e] at hn
          refine iteF ?_
          exact ⟨_, rfl, q _ H (Ex.refl H) hn⟩
        | some x =>
          rw [e] at hn
          refine iteT ?_
          refine ⟨_, rfl, _, rfl, c, x, rfl, ?_, q _ H (Ex.refl H) hn⟩
          rw [← e]
          exact DGet.k (k := Sum.inl (n : Int)) hc
      | a g ts =>
        simp only [Fit] at hf
        exact absurd hf.1 hd

end
end Orl
set_option Elab.async false
set_option linter.all false
set_option maxRecDepth 100000
set_option maxHeartbeats 4000000
namespace Orl
open PySem PySem.Spec PyProof.Rows L2
section
variable {P : Program} {w : World} {K : PySem.W.Frag} {mg : Str → Option Value} {base : Heap} {k : Nat} {f : Addr}
/-! instance_of -/
/-- the table of a row -/
def rowTab (vs : List V) (n : Nat) : List (Key × V) := (List.range n).map fun (i : Nat) => (Sum.inl (i : Int), vs.getD i .non)
theorem rowTab_succ (vs : List V) (n : Nat) : rowTab vs (n + 1) = rowTab vs n ++ [(Sum.inl (n : Int), vs.getD n .non)] := by
  unfold rowTab
  rw [List.range_succ, List.map_append]
  rfl
theorem rowTab_get (vs : List V) : ∀ (n m : Nat), valV (rowTab vs n) (Sum.inl (m : Int)) = if m < n then some (vs.getD m .non) else none
  | 0, m => by simp [rowTab, valV]
  | n + 1, m => by
    rw [rowTab_succ]
    have e := rowTab_get vs n n
    rw [if_neg (Nat.lt_irrefl n)] at e
    rw [valV_snoc _ _ _ _ e]
    by_cases h : m = n
    · subst h
      rw [if_pos rfl, if_pos (Nat.lt_succ_self m)]
    · have : ¬ (Sum.inl (m : Int) : Key) = Sum.inl (n : Int) := by
        intro z
        have := Sum.inl.inj z
        omega
      rw [if_neg this, rowTab_get vs n m]
      by_cases h2 : m < n
      · rw [if_pos h2, if_pos (by omega)]
      · rw [if_neg h2, if_neg (by omega)]
theorem rowTab_put (vs : List V) (n : Nat) : putK (rowTab vs n) (Sum.inl (n : Int)) (vs.getD n .non) = rowTab vs (n + 1) := by
  have e := rowTab_get vs n n
  rw [if_neg (Nat.lt_irrefl n)] at e
  rw [putK_new _ e, rowTab_succ]
theorem rowTab_len (vs : List V) (n : Nat) : (rowTab vs n).length = n := by unfold rowTab; rw [List.length_map, List.length_range]
/-- the row's table puts the row's terms -/
theorem rowTab_row {K : PySem.W.Frag} {H : Hp} {vs : List V} {row : List T} (h : TsA K H vs row) {m : Nat} (hm : m < row.length) : TA K H (putAt (rowTab vs row.length) m) (at' row m) := by
  unfold putAt at'
  rw [rowTab_get, if_pos hm]
  obtain ⟨v, e, hv⟩ := Pa.get h (List.getElem?_eq_getElem hm)
  rw [List.getD_eq_getElem?_getD, List.getD_eq_getElem?_getD, e, List.getElem?_eq_getElem hm]
  exact hv
def spInst (K : PySem.W.Frag) (d : Nat) : Pr := fun vs H Q => ∃ (v : V) (t : T) (a : Addr) (us : List V) (row : List T), vs = [v, .ref a] ∧ TA K H v t ∧ Fit t d ∧ SqT K H a us ∧ TsA K H us row ∧ Lo t row.length ∧ row.length ≤ 100 ∧
  ∀ v' H', Ex H H' → TA K H' v' (sub (at' row) t) → Q v' H'
abbrev Ninstance_of : List Str := ["term", "terms", "k"]
theorem sc_instance_of : FnScope Ninstance_of ["term", "terms"] (defScope s_instance_of) := ⟨rfl, rfl, rfl, by decide +kernel, rfl, by decide +kernel, by decide +kernel⟩
theorem ok_instance_of (F : FnP K "instance_of" s_instance_of f) (Tx : Top mg) (d : Nat) (h_replaced : Has P w K mg base k "replaced" 2 (spRepl K d)) : FnG P w K mg base (k + 1) f 2 (spInst K d) := by
  refine F.ok sc_instance_of (fun _ _ _ _ _ _ us hl => match us, hl with | [_, _], _ => rfl) (fun vs H Q h => ?_) (fun cdv A outer s H vs Q hr hG h => ?_)
  · obtain ⟨v, t, a, us, row, rfl, _⟩ := h
    rfl
  · have nd := sc_instance_of.nd
    obtain ⟨v, t, a, us, row, rfl, hv, hf, ha, hu, hlo, hn, q⟩ := h
    have hl := Pa.len hu
    refine ⟨_, ((pss_one (ps_ret (pe_own h_replaced hr hG (by rfl) (pa_cons (pv 0) (pa_cons (pe_dc (own := [("k", 2)]) (g := gName 2) (tt := tYes) rfl nd (pi_range1 (by rfl) Tx.range (pa_cons (pe_callB call_len_seq (by rfl) Tx.len (by decide +kernel) (pa_cons (pv 1) pa_nil)) pa_nil)) (blkOk_by (own := [("k", 2)]) (N := Ninstance_of) (sc := defScope s_instance_of) (by decide +kernel)) (fun _ _ _ _ _ => pg_name (i := 2) nd rfl (Or.inl rfl)) (fun _ _ _ _ _ => pts_nil) (fun _ _ _ _ _ => (pv 2)) (fun _ _ _ _ _ => (pe_ix (r := rIxT K) ix_tup (pv 1) (pv 2) (fun _ _ => rfl)))) pa_nil)))))), ?_⟩
    refine ⟨_, rfl, _, rfl, a, us, rfl, .inr ha, (us.length : Int), rfl, by omega, by omega, fun D hD => ?_⟩
    refine dc_range (lo := 0) (n := (us.length : Int).toNat) (fun i H' => ∃ G, Ex H G ∧ G D = none ∧ H' = upd G D (.dK (rowTab us i))) ⟨H, Ex.refl H, hD, rfl⟩ ?_ ?_
    · rintro i H' hi ⟨G, e, gD, rfl⟩
      refine ⟨rfl, ?_⟩
      simp only [tYes, if_true]
      have hi' : i < us.length := by omega
      have e0 : (0 : Int) + (i : Int) = (i : Int) := by omega
      refine ⟨_, rfl, _, rfl, _, rfl, a, us, _, us.getD i .non, rfl, rfl, Evl.ex_t (e.trans (Ex.new gD)) ha, atN e0 (by rw [List.getD_eq_getElem?_getD, List.getElem?_eq_getElem hi']; rfl), ?_⟩
      refine ⟨rowTab us i, Sum.inl (i : Int), by rw [e0]; rfl, upd_same, szs (by rw [rowTab_len]; omega), G, e, gD, ?_⟩
      rw [rowTab_put, upd_upd]
    · rintro H' ⟨G, e, gD, rfl⟩
      rw [Int.toNat_natCast]
      have e1 : Ex H (upd G D (.dK (rowTab us us.length))) := e.trans (Ex.new gD)
      refine ⟨v, t, D, rowTab us us.length, at' row, rfl, hv.up (Tk.ex e1), hf, upd_same, fun n hn => ?_, fun v' H' e2 hv' => q v' H' (e1.trans e2) hv'⟩
      have z := rowTab_row (hu.up (Tk.ex e1)) ((lo_iff t).mp hlo n hn)
      rw [← hl] at z
      exact z

end
end Orl
set_option Elab.async false
set_option linter.all false
set_option maxRecDepth 100000
set_option maxHeartbeats 4000000
namespace Orl
open PySem PySem.Spec PyProof.Rows L2
section
variable {P : Program} {w : World} {K : PySem.W.Frag} {mg : Str → Option Value} {base : Heap} {k : Nat} {f : Addr}
/-! note_variables, variables_of -/
def vkeys (us : List Nat) : List (Key × V) := us.map fun (n : Nat) => (Sum.inl (n : Int), V.bl true)
theorem vkeys_get : ∀ (us : List Nat) (n : Nat), valV (vkeys us) (Sum.inl (n : Int)) = if n ∈ us then some (.bl true) else none
  | [], n => by simp [vkeys, valV]
  | u :: us, n => by
    have ih := vkeys_get us n
    by_cases h : u = n
    · subst h
      rw [if_pos (List.mem_cons_self ..)]
      exact valV_pos rfl
    · have ne : ¬ (Sum.inl (u : Int) : Key) = Sum.inl (n : Int) := fun z => h (by have := Sum.inl.inj z; omega)
      have e : valV (vkeys (u :: us)) (Sum.inl (n : Int)) = valV (vkeys us) (Sum.inl (n : Int)) := valV_neg ne
      rw [e, ih]
      have : (n ∈ u :: us) ↔ n ∈ us := by
        rw [List.mem_cons]
        constructor
        · rintro (z | z)
          · exact absurd z.symm h
          · exact z
        · exact .inr
      simp only [this]
theorem map_same {κ : Type} [DecidableEq κ] {k : κ} {y : V} : ∀ {kvs : List (κ × V)}, (∀ p ∈ kvs, p.2 = y) → (kvs.map fun kv => if kv.1 = k then (kv.1, y) else kv) = kvs
  | [], _ => rfl
  | p :: r, h => by
    rw [List.map_cons, map_same fun q hq => h q (List.mem_cons_of_mem _ hq)]
    have := h p (List.mem_cons_self ..)
    split
    · rw [← this]
    · rfl
theorem vkeys_put (us : List Nat) (n : Nat) : putK (vkeys us) (Sum.inl (n : Int)) (.bl true) = vkeys (add1 us n) := by
  have g := vkeys_get us n
  unfold add1
  by_cases h : n ∈ us
  · rw [if_pos h] at g ⊢
    unfold putK
    have hs : ((vkeys us).any fun kv => decide (kv.1 = Sum.inl (n : Int))) = true := by rw [valV_any, g]; rfl
    rw [if_pos hs]
    refine map_same fun p hp => ?_
    obtain ⟨m, _, rfl⟩ := List.mem_map.mp hp
    rfl
  · rw [if_neg h] at g ⊢
    rw [putK_new _ g]
    unfold vkeys
    rw [List.map_append]
    rfl
theorem vkeys_len (us : List Nat) : (vkeys us).length = us.length := by unfold vkeys; rw [List.length_map]
theorem add1_len (us : List Nat) (n : Nat) : (add1 us n).length ≤ us.length + 1 := by
  unfold add1
  split
  · omega
  · simp
mutual
theorem vadd_len : ∀ (us : List Nat) (t : T) (d : Nat), Fit t d → (vadd us t).length ≤ us.length + 4 ^ d
  | us, .v n, d, _ => by
    have : 1 ≤ 4 ^ d := Nat.one_le_pow _ _ (by decide)
    have := add1_len us n
    simp only [vadd]
    omega
  | us, .a f ts, d, h => by
    simp only [Fit] at h
    obtain ⟨k, rfl⟩ : ∃ k, d = k + 1 := ⟨d - 1, by omega⟩
    have e := vadds_len us ts k h.2.2.2
    have m : ts.length * 4 ^ k ≤ 3 * 4 ^ k := Nat.mul_le_mul_right _ h.2.2.1
    simp only [vadd]
    rw [Nat.pow_succ]
    omega
theorem vadds_len : ∀ (us : List Nat) (ts : List T) (d : Nat), Fits ts d → (vadds us ts).length ≤ us.length + ts.length * 4 ^ d
  | us, [], d, _ => by simp [vadds]
  | us, t :: ts, d, h => by
    simp only [Fits] at h
    have e1 := vadd_len us t d h.1
    have e2 := vadds_len (vadd us t) ts d h.2
    simp only [vadds, List.length_cons]
    rw [Nat.add_mul]
    omega
end
theorem vadds_snoc : ∀ (us : List Nat) (ts : List T) (t : T), vadds us (ts ++ [t]) = vadd (vadds us ts) t
  | us, [], t => rfl
  | us, u :: ts, t => by
    show vadds (vadd us u) (ts ++ [t]) = _
    rw [vadds_snoc]
    rfl
theorem take_snoc {α : Type} {ts : List α} {i : Nat} {t : α} (h : ts[i]? = some t) : ts.take (i + 1) = ts.take i ++ [t] := by
  rw [List.take_add_one, h]
  rfl
theorem fits_take {ts : List T} {d n : Nat} (h : Fits ts d) : Fits (ts.take n) d := fits_iff.mpr fun t ht => fits_iff.mp h t (List.take_subset _ _ ht)
def spNote (K : PySem.W.Frag) (d : Nat) : Pr := fun vs H Q => ∃ (v : V) (t : T) (c : Addr) (us : List Nat), vs = [v, .ref c] ∧ TA K H v t ∧ Fit t d ∧ H c = some (.dK (vkeys us)) ∧ us.length + 4 ^ d ≤ 90000 ∧
  ∀ H', Xb c H H' → H' c = some (.dK (vkeys (vadd us t))) → Q .non H'
abbrev Nnote_variables : List Str := ["term", "found", "argument"]
theorem sc_note_variables : FnScope Nnote_variables ["term", "found"] (defScope s_note_variables) := ⟨rfl, rfl, rfl, by decide +kernel, rfl, by decide +kernel, by decide +kernel⟩
theorem ok_note_variables (F : FnP K "note_variables" s_note_variables f) (Tx : Top mg) (d : Nat) (h_note_variables : 0 < d → Has P w K mg base k "note_variables" 2 (spNote K (d - 1))) : FnG P w K mg base (k + 1) f 2 (spNote K d) := by
  by_cases hd : 0 < d
  · have h_note_variables := h_note_variables hd
    refine F.ok sc_note_variables (fun _ _ _ _ _ _ us hl => match us, hl with | [_, _], _ => rfl) (fun vs H Q h => ?_) (fun cdv A outer s H vs Q hr hG h => ?_)
    · obtain ⟨v, t, c, us, rfl, _⟩ := h
      rfl
    · have nd := sc_note_variables.nd
      obtain ⟨v, t, c, us, rfl, hv, hf, hc, hz, q⟩ := h
      refine ⟨_, ((pss_one (ps_if (pt_val (pe_callB call_isi (by rfl) Tx.isinstance (by decide +kernel) (pa_cons (pv 0) (pa_cons (pe_bltn (v := .ty "int") (by rfl) Tx.int boot_int rfl) pa_nil))))
    (pss_one (ps_dput (hu_of hr) (pv 1) (pv 0) pe_bl rfl))
    (pss_one (ps_for PassesOwn.never rfl (pi_tup (pe_slice sl_tupA (pv 0) (po_some pe_int) po_none)) (pg_name (i := 2) nd rfl (Or.inl rfl))
    (pss_one (ps_expr (pe_own h_note_variables hr hG (by rfl) (pa_cons (pv 2) (pa_cons (pv 1) pa_nil)))))))))), ?_⟩
      cases t with
      | v n =>
        obtain rfl := hv.inv_v
        have : 1 ≤ 4 ^ d := Nat.one_le_pow _ _ (by decide)
        refine ⟨_, rfl, _, _, _, _, true, rfl, .ty "int", .base (.int _), kit_ty (by decide +kernel), true, rfl, iteT ?_⟩
        refine ⟨_, rfl, _, rfl, c, _, rfl, DPut.k (k := Sum.inl (n : Int)) hc (szs (by rw [vkeys_len]; omega)), ?_⟩
        rw [vkeys_put]
        exact q _ Xb.upd upd_same
      | a g ts =>
        obtain ⟨a, ws, rfl, ha, hu⟩ := hv.inv_a
        simp only [Fit] at hf
        have hlen := Pa.len hu
        refine ⟨_, rfl, _, _, _, _, false, rfl, .ty "int", tyx_tup ha, kit_ty (by decide +kernel), false, rfl, iteF ?_⟩
        refine ⟨_, rfl, 1, rfl, ?_⟩
        refine ⟨a, _, rfl, ha, fun z => (six1 z).elim, fun _ b hb => ?_⟩
        rw [cut1]
        have e1 : Ex H (upd H b (.tup ws)) := Ex.new hb
        have hc1 := e1 _ _ hc
        refine ⟨b, rfl, ⟨ws, .inl (.inl upd_same)⟩, ?_⟩
        refine for_tup (xs := ws) (fun i σ' H' => ∃ (y : Option V), σ' = [some (.ref a), some (.ref c), y] ∧ Xb c (upd H b (.tup ws)) H' ∧ H' c = some (.dK (vkeys (vadds us (ts.take i))))) ⟨none, rfl, Xb.refl _ _, hc1⟩
          (fun i σ' H' _ ⟨y, _, e, _⟩ => Tk.xb hc1 rfl e b ws (.inl (.inl upd_same))) ?_ ?_
        · rintro i x σ' H' hx ⟨y, rfl, e, hc'⟩
          obtain ⟨t, ht, hxt⟩ := Pa.get' hu hx
          have l1 := vadds_len us (ts.take i) (d - 1) (fits_take hf.2.2.2)
          have l2 : (ts.take i).length ≤ 2 := by
            rw [List.length_take]
            have := (List.getElem?_eq_some_iff.mp ht).1
            omega
          have l3 : (ts.take i).length * 4 ^ (d - 1) ≤ 2 * 4 ^ (d - 1) := Nat.mul_le_mul_right _ l2
          have l4 : 4 ^ d = 4 ^ (d - 1) * 4 := by
            obtain ⟨j, rfl⟩ : ∃ j, d = j + 1 := ⟨d - 1, by omega⟩
            rw [Nat.pow_succ]
            rfl
          refine ⟨_, rfl, _, rfl, x, t, c, _, rfl, hxt.up ((Tk.ex e1).trans (Tk.xb hc1 rfl e)), fits_iff.mp hf.2.2.2 t (List.mem_of_getElem? ht), hc', by omega, fun H'' e2 hc'' => ?_⟩
          refine ⟨some x, rfl, e.trans e2, ?_⟩
          rw [take_snoc ht, vadds_snoc]
          exact hc''
        · rintro σ' H' ⟨y, rfl, e, hc'⟩
          rw [hlen, List.take_length] at hc'
          refine q _ ((Xb.ex e1).trans e) ?_
          simp only [vadd]
          exact hc'
  · refine F.ok sc_note_variables (fun _ _ _ _ _ _ us hl => match us, hl with | [_, _], _ => rfl) (fun vs H Q h => ?_) (fun cdv A outer s H vs Q hr hG h => ?_)
    · obtain ⟨v, t, c, us, rfl, _⟩ := h
      rfl
    · have nd := sc_note_variables.nd
      obtain ⟨v, t, c, us, rfl, hv, hf, hc, hz, q⟩ := h
      refine ⟨_, ((pss_one (ps_if (pt_val (pe_callB call_isi (by rfl) Tx.isinstance (by decide +kernel) (pa_cons (pv 0) (pa_cons (pe_bltn (v := .ty "int") (by rfl) Tx.int boot_int rfl) pa_nil))))
    (pss_one (ps_dput (hu_of hr) (pv 1) (pv 0) pe_bl rfl))
    pss_never))), ?_⟩
      cases t with
      | v n =>
        obtain rfl := hv.inv_v
        have : 1 ≤ 4 ^ d := Nat.one_le_pow _ _ (by decide)
        refine ⟨_, rfl, _, _, _, _, true, rfl, .ty "int", .base (.int _), kit_ty (by decide +kernel), true, rfl, iteT ?_⟩
        refine ⟨_, rfl, _, rfl, c, _, rfl, DPut.k (k := Sum.inl (n : Int)) hc (szs (by rw [vkeys_len]; omega)), ?_⟩
        rw [vkeys_put]
        exact q _ Xb.upd upd_same
      | a g ts =>
        simp only [Fit] at hf
        exact absurd hf.1 hd
def natsV (us : List Nat) : List V := us.map fun (n : Nat) => V.int (n : Int)
def spVarsOf (K : PySem.W.Frag) : Pr := fun vs H Q => ∃ (a : Addr) (xs : List V) (ts : List T), vs = [.ref a] ∧ SqT K H a xs ∧ TsA K H xs ts ∧ Fits ts 3 ∧ ts.length ≤ 100 ∧ ∀ p H', Ex H H' → SqT K H' p (natsV (vars ts)) → Q (.ref p) H'
abbrev Nvariables_of : List Str := ["terms", "found", "term"]
theorem sc_variables_of : FnScope Nvariables_of ["terms"] (defScope s_variables_of) := ⟨rfl, rfl, rfl, by decide +kernel, rfl, by decide +kernel, by decide +kernel⟩
theorem ok_variables_of (F : FnP K "variables_of" s_variables_of f) (Tx : Top mg) (h_note_variables : Has P w K mg base k "note_variables" 2 (spNote K 3)) : FnG P w K mg base (k + 1) f 1 (spVarsOf K) := by
  refine F.ok sc_variables_of (fun _ _ _ _ _ _ us hl => match us, hl with | [_], _ => rfl) (fun vs H Q h => ?_) (fun cdv A outer s H vs Q hr hG h => ?_)
  · obtain ⟨a, xs, ts, rfl, _⟩ := h
    rfl
  · have nd := sc_variables_of.nd
    obtain ⟨a, xs, ts, rfl, ha, hx, hf, hn, q⟩ := h
    refine ⟨_, ((pss_cons (ps_set (i := 1) nd rfl (Or.inl rfl) pe_dnewK)
  (pss_cons (ps_for PassesOwn.never rfl (pi_tup (pv 0)) (pg_name (i := 2) nd rfl (Or.inl rfl))
    (pss_one (ps_expr (pe_own h_note_variables hr hG (by rfl) (pa_cons (pv 2) (pa_cons (pv 1) pa_nil))))))
  (pss_one (ps_ret (pe_callTy call_tuple_of (by rfl) Tx.tuple (by decide +kernel) (pa_cons (pe_callTy (call_list_dK rfl) (by rfl) Tx.list (by decide +kernel) (pa_cons (pv 1) pa_nil)) pa_nil))))))), ?_⟩
    refine fun c hc => ?_
    have e1 : Ex H (upd H c (.dK [])) := Ex.new hc
    have hlen := Pa.len hx
    have hc1 : upd H c (.dK []) c = some (.dK []) := upd_same
    refine ⟨_, rfl, a, rfl, ⟨xs, Evl.ex_t e1 ha⟩, ?_⟩
    refine for_tup (xs := xs) (fun i σ' H' => ∃ (y : Option V), σ' = [some (.ref a), some (.ref c), y] ∧ Xb c (upd H c (.dK [])) H' ∧ H' c = some (.dK (vkeys (vadds [] (ts.take i))))) ⟨none, rfl, Xb.refl _ _, upd_same⟩
      (fun i σ' H' _ ⟨y, _, e, _⟩ => Tk.xb hc1 rfl e a xs (Evl.ex_t e1 ha)) ?_ ?_
    · rintro i x σ' H' hxi ⟨y, rfl, e, hc'⟩
      obtain ⟨t, ht, hxt⟩ := Pa.get' hx hxi
      have l1 := vadds_len [] (ts.take i) 3 (fits_take hf)
      have l2 : (ts.take i).length ≤ 100 := by
        rw [List.length_take]
        omega
      have l3 : (ts.take i).length * 4 ^ 3 ≤ 100 * 4 ^ 3 := Nat.mul_le_mul_right _ l2
      have l4 : 4 ^ 3 = 64 := by decide
      have l5 : ([] : List Nat).length = 0 := rfl
      refine ⟨_, rfl, _, rfl, x, t, c, _, rfl, hxt.up ((Tk.ex e1).trans (Tk.xb hc1 rfl e)), fits_iff.mp hf t (List.mem_of_getElem? ht), hc', by omega, fun H'' e2 hc'' => ?_⟩
      refine ⟨some x, rfl, e.trans e2, ?_⟩
      rw [take_snoc ht, vadds_snoc]
      exact hc''
    · rintro σ' H' ⟨y, rfl, e, hc'⟩
      rw [hlen, List.take_length] at hc'
      refine ⟨_, rfl, c, _, rfl, hc', fun l hl => ?_⟩
      have eH : Ex H H' := Ex.ofXb ((Xb.ex e1).trans e) hc
      refine ⟨l, _, rfl, .inl ⟨.inl (.inl upd_same), fun p hp => ?_⟩⟩
      refine q p _ ((eH.trans (Ex.new hl)).trans (Ex.new hp)) (.inl (.inl ?_))
      rw [upd_same]
      congr 2
      unfold vkeys natsV vars
      rw [List.map_map]
      rfl

end
end Orl
set_option Elab.async false
set_option linter.all false
set_option maxRecDepth 100000
set_option maxHeartbeats 4000000
namespace Orl
open PySem PySem.Spec PyProof.Rows L2
section
variable {P : Program} {w : World} {K : PySem.W.Frag} {mg : Str → Option Value} {base : Heap} {k : Nat} {f : Addr}
/-! numbered, numbered_rule, variable_count -/
theorem putK_len (kvs : List (Key × V)) (k : Key) (v : V) : (putK kvs k v).length ≤ kvs.length + 1 := by
  unfold putK
  split
  · rw [List.length_map]; omega
  · rw [List.length_append]; exact Nat.le_refl _
/-- the table from a list's numbers to their places -/
def idxTab (us : List Nat) : Nat → List (Key × V)
  | 0 => []
  | n + 1 => putK (idxTab us n) (Sum.inl ((us.getD n 0 : Nat) : Int)) (V.int (n : Int))
theorem idxTab_len (us : List Nat) : ∀ n, (idxTab us n).length ≤ n
  | 0 => Nat.le_refl _
  | n + 1 => Nat.le_trans (putK_len _ _ _) (Nat.succ_le_succ (idxTab_len us n))
theorem idxTab_get {us : List Nat} (nd : us.Nodup) (m : Nat) : ∀ (n : Nat), n ≤ us.length → valV (idxTab us n) (Sum.inl (m : Int)) = if m ∈ us.take n then some (.int ((us.idxOf m : Nat) : Int)) else none
  | 0, _ => by simp [idxTab, valV]
  | n + 1, h => by
    have l : n < us.length := by omega
    have e : us.getD n 0 = us[n] := by rw [List.getD_eq_getElem?_getD, List.getElem?_eq_getElem l]; rfl
    have ih := idxTab_get nd m n (by omega)
    rw [idxTab, valV_put, e, take_snoc (List.getElem?_eq_getElem l), ih]
    by_cases q : m = us[n]
    · subst q
      rw [if_pos rfl, if_pos (List.mem_append.mpr (.inr (List.mem_singleton.mpr rfl))), List.Nodup.idxOf_getElem nd n l]
    · rw [if_neg (fun z => q (by have := Sum.inl.inj z; omega))]
      have : m ∈ us.take n ++ [us[n]] ↔ m ∈ us.take n := by
        rw [List.mem_append, List.mem_singleton]
        exact ⟨fun z => z.elim id fun z => absurd z q, .inl⟩
      simp only [this]
theorem idxTab_at {us : List Nat} (nd : us.Nodup) {m : Nat} (h : m ∈ us) : putAt (idxTab us us.length) m = .int ((us.idxOf m : Nat) : Int) := by
  unfold putAt
  rw [idxTab_get nd m us.length (Nat.le_refl _), List.take_length, if_pos h]
  rfl
theorem natsV_get {us : List Nat} {i : Nat} (h : i < us.length) : (natsV us)[i]? = some (.int ((us.getD i 0 : Nat) : Int)) := by
  unfold natsV
  rw [List.getElem?_map, List.getElem?_eq_getElem h, List.getD_eq_getElem?_getD, List.getElem?_eq_getElem h]
  rfl
theorem natsV_len (us : List Nat) : (natsV us).length = us.length := by unfold natsV; rw [List.length_map]
theorem vars_len {ts : List T} (hf : Fits ts 3) (hn : ts.length ≤ 100) : (vars ts).length ≤ 6400 := by
  have := vadds_len [] ts 3 hf
  have e : 4 ^ 3 = 64 := by decide
  have : ([] : List Nat).length = 0 := rfl
  unfold vars
  omega
def spNumb (K : PySem.W.Frag) : Pr := fun vs H Q => ∃ (a : Addr) (xs : List V) (ts : List T), vs = [.ref a] ∧ SqT K H a xs ∧ TsA K H xs ts ∧ Fits ts 3 ∧ ts.length ≤ 100 ∧ ∀ p ys H', Ex H H' → SqT K H' p ys → TsA K H' ys (numb ts) → Q (.ref p) H'
abbrev Nnumbered : List Str := ["terms", "order", "table", "k", "term"]
theorem sc_numbered : FnScope Nnumbered ["terms"] (defScope s_numbered) := ⟨rfl, rfl, rfl, by decide +kernel, rfl, by decide +kernel, by decide +kernel⟩
theorem ok_numbered (F : FnP K "numbered" s_numbered f) (Tx : Top mg) (h_variables_of : Has P w K mg base k "variables_of" 1 (spVarsOf K)) (h_replaced : Has P w K mg base k "replaced" 2 (spRepl K 3)) : FnG P w K mg base (k + 1) f 1 (spNumb K) := by
  refine F.ok sc_numbered (fun _ _ _ _ _ _ us hl => match us, hl with | [_], _ => rfl) (fun vs H Q h => ?_) (fun cdv A outer s H vs Q hr hG h => ?_)
  · obtain ⟨a, xs, ts, rfl, _⟩ := h
    rfl
  · have nd := sc_numbered.nd
    obtain ⟨a, xs, ts, rfl, ha, hx, hf, hn, q⟩ := h
    refine ⟨_, ((pss_cons (ps_set (i := 1) nd rfl (Or.inr rfl) (pe_own h_variables_of hr hG (by rfl) (pa_cons (pv 0) pa_nil)))
  (pss_cons (ps_set (i := 2) nd rfl (Or.inr rfl) (pe_dc (own := [("k", 3)]) (g := gName 3) (tt := tYes) rfl nd (pi_range1 (by rfl) Tx.range (pa_cons (pe_callB call_len_seq (by rfl) Tx.len (by decide +kernel) (pa_cons (pv 1) pa_nil)) pa_nil)) (blkOk_by (own := [("k", 3)]) (N := Nnumbered) (sc := defScope s_numbered) (by decide +kernel)) (fun _ _ _ _ _ => pg_name (i := 3) nd rfl (Or.inl rfl)) (fun _ _ _ _ _ => pts_nil) (fun _ _ _ _ _ => (pe_ix (r := rIxT K) ix_tup (pv 1) (pv 3) (fun _ _ => rfl))) (fun _ _ _ _ _ => (pv 3))))
  (pss_one (ps_ret (pe_callTy call_tuple_of (by rfl) Tx.tuple (by decide +kernel) (pa_cons (pe_lc (own := [("term", 4)]) (g := gName 4) (tt := tYes) rfl nd (pi_tup (pv 0)) (blkOk_by (own := [("term", 4)]) (N := Nnumbered) (sc := defScope s_numbered) (by decide +kernel)) (fun _ _ _ _ _ => pg_name (i := 4) nd rfl (Or.inl rfl)) (fun _ _ _ _ _ => pts_nil) (fun _ _ _ _ _ => (pe_own h_replaced hr hG (by rfl) (pa_cons (pv 4) (pa_cons (pv 2) pa_nil))))) pa_nil))))))), ?_⟩
    have hlen := Pa.len hx
    have vl := vars_len hf hn
    refine ⟨_, rfl, a, xs, ts, rfl, ha, hx, hf, hn, fun p H1 e1 hp => ?_⟩
    refine ⟨_, rfl, p, _, rfl, .inr hp, _, rfl, by rw [natsV_len]; omega, by rw [natsV_len]; omega, fun D hD => ?_⟩
    refine dc_range (lo := 0) (n := ((natsV (vars ts)).length : Int).toNat) (fun i H' => ∃ G, Ex H1 G ∧ G D = none ∧ H' = upd G D (.dK (idxTab (vars ts) i))) ⟨H1, Ex.refl _, hD, rfl⟩ ?_ ?_
    · rintro i H' hi ⟨G, e, gD, rfl⟩
      rw [natsV_len] at hi
      refine ⟨rfl, ?_⟩
      simp only [tYes, if_true]
      have e0 : (0 : Int) + (i : Int) = (i : Int) := by omega
      refine ⟨_, rfl, _, rfl, p, _, _, _, rfl, rfl, Evl.ex_t (e.trans (Ex.new gD)) hp, atN e0 (natsV_get (by omega)), ?_⟩
      refine ⟨_, rfl, idxTab (vars ts) i, Sum.inl _, rfl, upd_same, szs (by have := idxTab_len (vars ts) i; omega), G, e, gD, ?_⟩
      rw [upd_upd, e0]
      rfl
    · rintro H' ⟨G, e, gD, rfl⟩
      rw [Int.toNat_natCast, natsV_len]
      have e2 : Ex H1 (upd G D (.dK (idxTab (vars ts) (vars ts).length))) := e.trans (Ex.new gD)
      have e12 := e1.trans e2
      refine ⟨_, rfl, a, rfl, ⟨xs, Evl.ex_t e12 ha⟩, ?_⟩
      intro L hL
      refine lc_ex (xs := xs) (fun H' i y => ∀ t, ts[i]? = some t → TA K H' y (sub (ren fun n => (vars ts).idxOf n) t)) (fun H H' i y k h t ht => (h t ht).up k) (ys_tup fun H' e => Evl.ex_t e (Evl.ex_t e12 ha)) (by omega) (by intro _; rfl) ?_ hL ?_
      · intro i x H' Qk hxi e3 qk
        obtain ⟨t, ht, hxt⟩ := Pa.get' hx hxi
        refine ⟨_, rfl, _, rfl, x, t, D, _, ren fun n => (vars ts).idxOf n, rfl, hxt.up (Tk.ex (e12.trans e3)), fits_iff.mp hf t (List.mem_of_getElem? ht), e3 _ _ upd_same, fun n hn => ?_, ?_⟩
        · rw [idxTab_at (nodup_vars ts) (mem_vars.mpr (occs_iff.mpr ⟨t, List.mem_of_getElem? ht, hn⟩))]
          exact TA.var _
        · intro v' H'' e4 hv'
          refine qk v' H'' e4 fun t' ht' => ?_
          rw [ht] at ht'
          rw [← Option.some.inj ht']
          exact hv'
      · intro H' acc e3 hDa hl hR
        refine ⟨L, acc, rfl, .inl ⟨.inl (.inl hDa), fun r hr => ?_⟩⟩
        have e5 : Ex H' (upd H' r (.tup acc)) := Ex.new hr
        refine q r acc _ ((e12.trans e3).trans e5) (.inl (.inl upd_same)) ?_
        have hts : TsA K H' acc (numb ts) := by
          unfold numb
          refine paired_of (by rw [hl, subs_map, List.length_map, hlen]) fun i y t hy ht => ?_
          obtain ⟨u, hu1, rfl⟩ := subs_get ht
          exact hR i y hy u hu1
        exact hts.up (Tk.ex e5)
/-- a rule -/
def RlA (K : PySem.W.Frag) (H : Hp) (v : V) (r : Rl) : Prop := ∃ (a pa : Addr) (nm : Str) (c : V) (ps : List V), v = .ref a ∧ SqT K H a [.str nm, .ref pa, c] ∧ SqT K H pa ps ∧ TsA K H ps r.prem ∧ TA K H c r.con
theorem RlA.up {K : PySem.W.Frag} {H H' : Hp} {v : V} {r : Rl} (h : RlA K H v r) (k : Tk K H H') : RlA K H' v r := by
  obtain ⟨a, pa, nm, c, ps, e, h1, h2, h3, h4⟩ := h
  exact ⟨a, pa, nm, c, ps, e, k _ _ h1, k _ _ h2, h3.up k, h4.up k⟩
abbrev RlsA (K : PySem.W.Frag) (H : Hp) (vs : List V) (rs : List Rl) : Prop := Paired (RlA K H) vs rs
theorem RlsA.up {K : PySem.W.Frag} {H H' : Hp} {vs : List V} {rs : List Rl} (h : RlsA K H vs rs) (k : Tk K H H') : RlsA K H' vs rs := Pa.imp h fun _ _ q => q.up k
theorem at1 {x y : V} {xs : List V} : atI (x :: y :: xs) 1 = some y := atI_nat (j := 1) rfl
theorem at2 {x y z : V} {xs : List V} : atI (x :: y :: z :: xs) 2 = some z := atI_nat (j := 2) rfl
theorem at3 {x y z u : V} {xs : List V} : atI (x :: y :: z :: u :: xs) 3 = some u := atI_nat (j := 3) rfl
theorem at4 {x y z u t : V} {xs : List V} : atI (x :: y :: z :: u :: t :: xs) 4 = some t := atI_nat (j := 4) rfl
/-- .. as the numbering leaves it -/
def numbR (r : Rl) : Rl := ⟨(numb (r.con :: r.prem)).drop 1, (numb (r.con :: r.prem)).headD (.v 0)⟩
theorem numbR_eq (r : Rl) : numb (r.con :: r.prem) = (numbR r).con :: (numbR r).prem := by
  unfold numbR numb
  rfl
def spNumR (K : PySem.W.Frag) : Pr := fun vs H Q => ∃ (v : V) (r : Rl), vs = [v] ∧ RlA K H v r ∧ Fits (r.con :: r.prem) 3 ∧ r.prem.length ≤ 3 ∧ ∀ v' H', Ex H H' → RlA K H' v' (numbR r) → Q v' H'
abbrev Nnumbered_rule : List Str := ["rule", "atoms"]
theorem sc_numbered_rule : FnScope Nnumbered_rule ["rule"] (defScope s_numbered_rule) := ⟨rfl, rfl, rfl, by decide +kernel, rfl, by decide +kernel, by decide +kernel⟩
theorem ok_numbered_rule (F : FnP K "numbered_rule" s_numbered_rule f) (Tx : Top mg) (h_numbered : Has P w K mg base k "numbered" 1 (spNumb K)) : FnG P w K mg base (k + 1) f 1 (spNumR K) := by
  refine F.ok sc_numbered_rule (fun _ _ _ _ _ _ us hl => match us, hl with | [_], _ => rfl) (fun vs H Q h => ?_) (fun cdv A outer s H vs Q hr hG h => ?_)
  · obtain ⟨v, r, rfl, _⟩ := h
    rfl
  · have nd := sc_numbered_rule.nd
    obtain ⟨v, r, rfl, ⟨a, pa, nm, c, ps, rfl, h1, h2, h3, h4⟩, hf, hp, q⟩ := h
    refine ⟨_, ((pss_cons (ps_set (i := 1) nd rfl (Or.inl rfl) (pe_own h_numbered hr hG (by rfl) (pa_cons (pe_op op_catA (pe_tup (pa_cons (pe_ix ix_tup (pv 0) pe_int (fun _ _ => rfl)) pa_nil)) (pe_ix ix_tup (pv 0) pe_int (fun _ _ => rfl))) pa_nil)))
  (pss_one (ps_ret (pe_tup (pa_cons (pe_ix ix_tup (pv 0) pe_int (fun _ _ => rfl)) (pa_cons (pe_slice sl_tupA (pv 1) (po_some pe_int) po_none) (pa_cons (pe_ix ix_tup (pv 1) pe_int (fun _ _ => rfl)) pa_nil)))))))), ?_⟩
    have hl := Pa.len h3
    refine ⟨_, rfl, a, _, 2, _, rfl, rfl, h1, at2, szl (show 1 ≤ 100000 by decide), fun p hp1 => ?_⟩
    have e1 : Ex H (upd H p (.tup [c])) := Ex.new hp1
    refine ⟨_, rfl, a, _, 1, _, rfl, rfl, Evl.ex_t e1 h1, at1, ?_⟩
    refine cat_cons (K := K) (.inl (.inl upd_same)) (Evl.ex_t e1 h2) (by omega) fun z H2 e2 hz => ?_
    have e12 := e1.trans e2
    refine ⟨z, c :: ps, r.con :: r.prem, rfl, hz, .cons (h4.up (Tk.ex e12)) (h3.up (Tk.ex e12)), hf, by simp; omega, fun y ys H3 e3 hy hys => ?_⟩
    rw [numbR_eq] at hys
    cases hys with
    | cons hc hps =>
      rename_i c' ps'
      have e13 := e12.trans e3
      refine ⟨_, rfl, a, _, 0, _, rfl, rfl, Evl.ex_t e13 h1, at0, ?_⟩
      refine ⟨_, rfl, 1, rfl, ?_⟩
      refine ⟨y, _, rfl, hy, fun z => (six1 z).elim, fun _ b hb => ?_⟩
      rw [cut1]
      have e4 : Ex H3 (upd H3 b (.tup ps')) := Ex.new hb
      refine ⟨_, rfl, y, _, 0, c', rfl, rfl, Evl.ex_t e4 hy, at0, szl (show 3 ≤ 100000 by decide), fun r' hr' => ?_⟩
      have e5 : Ex (upd H3 b (.tup ps')) (upd (upd H3 b (.tup ps')) r' (.tup [.str nm, .ref b, c'])) := Ex.new hr'
      refine q _ _ ((e13.trans e4).trans e5) ⟨r', b, nm, c', ps', rfl, .inl (.inl upd_same), Evl.ex_t e5 (.inl (.inl upd_same)), TsA.up hps (Tk.ex (e4.trans e5)), TA.up hc (Tk.ex (e4.trans e5))⟩
def spVc (K : PySem.W.Frag) : Pr := fun vs H Q => ∃ (v : V) (r : Rl), vs = [v] ∧ RlA K H v r ∧ Fits (r.con :: r.prem) 3 ∧ r.prem.length ≤ 3 ∧ ∀ H', Ex H H' → Q (.int (vc r)) H'
abbrev Nvariable_count : List Str := ["rule"]
theorem sc_variable_count : FnScope Nvariable_count ["rule"] (defScope s_variable_count) := ⟨rfl, rfl, rfl, by decide +kernel, rfl, by decide +kernel, by decide +kernel⟩
theorem ok_variable_count (F : FnP K "variable_count" s_variable_count f) (Tx : Top mg) (h_variables_of : Has P w K mg base k "variables_of" 1 (spVarsOf K)) : FnG P w K mg base (k + 1) f 1 (spVc K) := by
  refine F.ok sc_variable_count (fun _ _ _ _ _ _ us hl => match us, hl with | [_], _ => rfl) (fun vs H Q h => ?_) (fun cdv A outer s H vs Q hr hG h => ?_)
  · obtain ⟨v, r, rfl, _⟩ := h
    rfl
  · have nd := sc_variable_count.nd
    obtain ⟨v, r, rfl, ⟨a, pa, nm, c, ps, rfl, h1, h2, h3, h4⟩, hf, hp, q⟩ := h
    refine ⟨_, ((pss_one (ps_ret (pe_callB call_len_seq (by rfl) Tx.len (by decide +kernel) (pa_cons (pe_own h_variables_of hr hG (by rfl) (pa_cons (pe_op op_catA (pe_tup (pa_cons (pe_ix ix_tup (pv 0) pe_int (fun _ _ => rfl)) pa_nil)) (pe_ix ix_tup (pv 0) pe_int (fun _ _ => rfl))) pa_nil)) pa_nil))))), ?_⟩
    have hl := Pa.len h3
    refine ⟨_, rfl, a, _, 2, _, rfl, rfl, h1, at2, szl (show 1 ≤ 100000 by decide), fun p hp1 => ?_⟩
    have e1 : Ex H (upd H p (.tup [c])) := Ex.new hp1
    refine ⟨_, rfl, a, _, 1, _, rfl, rfl, Evl.ex_t e1 h1, at1, ?_⟩
    refine cat_cons (K := K) (.inl (.inl upd_same)) (Evl.ex_t e1 h2) (by omega) fun z H2 e2 hz => ?_
    have e12 := e1.trans e2
    refine ⟨z, c :: ps, r.con :: r.prem, rfl, hz, .cons (h4.up (Tk.ex e12)) (h3.up (Tk.ex e12)), hf, by simp; omega, fun y H3 e3 hy => ?_⟩
    refine ⟨y, _, rfl, .inr hy, ?_⟩
    rw [natsV_len]
    exact q H3 (e12.trans e3)

end
end Orl
set_option Elab.async false
set_option linter.all false
set_option maxRecDepth 100000
set_option maxHeartbeats 4000000
namespace Orl
open PySem PySem.Spec PyProof.Rows L2
section
variable {P : Program} {w : World} {K : PySem.W.Frag} {mg : Str → Option Value} {base : Heap} {k : Nat} {f : Addr}
/-! choices, _law_choices, _law_table -/
def RowA (K : PySem.W.Frag) (H : Hp) (v : V) (row : List T) : Prop := ∃ (a : Addr) (us : List V), v = .ref a ∧ SqT K H a us ∧ TsA K H us row
theorem RowA.up {K : PySem.W.Frag} {H H' : Hp} {v : V} {row : List T} (h : RowA K H v row) (k : Tk K H H') : RowA K H' v row := by
  obtain ⟨a, us, e, h1, h2⟩ := h
  exact ⟨a, us, e, k _ _ h1, h2.up k⟩
abbrev RowsA (K : PySem.W.Frag) (H : Hp) (vs : List V) (rws : List (List T)) : Prop := Paired (RowA K H) vs rws
theorem RowsA.up {K : PySem.W.Frag} {H H' : Hp} {vs : List V} {rws : List (List T)} (h : RowsA K H vs rws) (k : Tk K H H') : RowsA K H' vs rws := Pa.imp h fun _ _ q => q.up k
/-- t + (x,) -/
theorem cat_snoc {K : PySem.W.Frag} {H : Hp} {a b : Addr} {x : V} {xs : List V} {Q : VK} (ha : SqT K H a xs) (hb : SqT K H b [x]) (hz : xs.length ≤ 90000) (q : ∀ p H', Ex H H' → SqT K H' p (xs ++ [x]) → Q (.ref p) H') : rCatA K (.ref a) (.ref b) H Q := by
  refine ⟨a, b, xs, [x], rfl, rfl, ha, hb, szl (by simp; omega), ?_, (fun _ z => by cases z), ?_⟩
  · rintro rfl
    exact q b H (Ex.refl H) hb
  · intro _ _ p hp
    exact q p _ (Ex.new hp) (.inl (.inl upd_same))
def ext1 (ts : List T) (r : List T) : List (List T) := ts.map fun t => r ++ [t]
theorem rows_succ (n : Nat) (ts : List T) : rows (n + 1) ts = (rows n ts).flatMap (ext1 ts) := rfl
theorem ext1_snoc {ts : List T} {r : List T} {j : Nat} {t : T} (h : ts[j]? = some t) : ext1 (ts.take (j + 1)) r = ext1 (ts.take j) r ++ [r ++ [t]] := by
  unfold ext1
  rw [take_snoc h, List.map_append]
  rfl
theorem ext1_len (ts : List T) (r : List T) : (ext1 ts r).length = ts.length := by unfold ext1; rw [List.length_map]
theorem flat_snoc {rs : List (List T)} {ts : List T} {i : Nat} {r : List T} (h : rs[i]? = some r) : (rs.take (i + 1)).flatMap (ext1 ts) = (rs.take i).flatMap (ext1 ts) ++ ext1 ts r := by
  rw [take_snoc h, List.flatMap_append]
  simp
theorem flat_len (rs : List (List T)) (ts : List T) : (rs.flatMap (ext1 ts)).length = rs.length * ts.length := by
  induction rs with
  | nil => simp
  | cons r rs ih => rw [List.flatMap_cons, List.length_append, ext1_len, ih, List.length_cons, Nat.succ_mul]; omega
theorem rows_row {n : Nat} {ts : List T} {i : Nat} {r : List T} (h : (rows n ts)[i]? = some r) : r.length = n := (mem_rows.mp (List.mem_of_getElem? h)).1
theorem rows_small {n m : Nat} {ts : List T} (hm : m < n) (hn : n ≤ 3) (ht : ts.length ≤ 4) : (rows m ts).length ≤ 16 := by
  rw [len_rows]
  have : ts.length ^ m ≤ 4 ^ m := Nat.pow_le_pow_left ht m
  have : 4 ^ m ≤ 4 ^ 2 := Nat.pow_le_pow_right (by decide) (by omega)
  have : 4 ^ 2 = 16 := by decide
  omega
theorem row_small {K : PySem.W.Frag} {H : Hp} {us : List V} {row : List T} (h : TsA K H us row) {n : Nat} (hr : row.length = n) : us.length = n := by rw [Pa.len h, hr]
def spChoi (K : PySem.W.Frag) (tup : Bool) : Pr := fun vs H Q => ∃ (n : Nat) (a : Addr) (us : List V) (ts : List T), vs = (if tup = true then [.int n, .ref a] else [.ref a, .int n]) ∧ (if tup = true then SqT K H a us else H a = some (.lst us)) ∧ TsA K H us ts ∧ n ≤ 3 ∧ ts.length ≤ 4 ∧
  ∀ p ws H', Ex H H' → H p = none → H' p = some (.lst ws) → RowsA K H' ws (rows n ts) → Q (.ref p) H'
abbrev Nchoices : List Str := ["count", "terms", "found", "_", "row", "term"]
theorem sc_choices : FnScope Nchoices ["count", "terms"] (defScope s_choices) := ⟨rfl, rfl, rfl, by decide +kernel, rfl, by decide +kernel, by decide +kernel⟩
theorem ok_choices (F : FnP K "choices" s_choices f) (Tx : Top mg) : FnG P w K mg base (k + 1) f 2 (spChoi K true) := by
  refine F.ok sc_choices (fun _ _ _ _ _ _ us hl => match us, hl with | [_, _], _ => rfl) (fun vs H Q h => ?_) (fun cdv A outer s H vs Q hr hG h => ?_)
  · obtain ⟨n, a, us, ts, rfl, _⟩ := h
    rfl
  · have nd := sc_choices.nd
    obtain ⟨n, a, us, ts, rfl, ha, hx, hn, ht, q⟩ := h
    simp only [if_true] at ha ⊢
    have hlen := Pa.len hx
    refine ⟨_, ((pss_cons (ps_set (i := 2) nd rfl (Or.inl rfl) (pe_lst (pa_cons (pe_tup pa_nil) pa_nil)))
  (pss_cons (ps_for PassesOwn.never rfl (pi_range1 (by rfl) Tx.range (pa_cons (pv 0) pa_nil)) (pg_name (i := 3) nd rfl (Or.inl rfl))
    (pss_one (ps_setLc2 (i := 2) (own := [("row", 4), ("term", 5)]) (g := gName 4) (tt := tYes) (g1 := gName 5) (tt1 := tYes) rfl nd rfl rfl (sw_true rfl rfl rfl (by decide +kernel)) (pi_list (pv 2)) (blkOk_by (own := [("row", 4), ("term", 5)]) (N := Nchoices) (sc := defScope s_choices) (by decide +kernel)) (vs1 := [5]) (by decide) (fun _ _ _ _ _ => pg_name (i := 4) nd rfl (Or.inl rfl)) (fun _ _ _ _ _ => pts_nil) (fun _ _ _ _ _ => (show PI _ _ _ (iTup K _) from (pi_tup (pv 1)))) (fun _ _ _ _ _ => pg_name (i := 5) nd rfl (Or.inl rfl)) (fun _ _ _ _ _ => pts_nil) (fun _ _ _ _ _ => (pe_op (r := rCatA K) op_catA (pv 4) (pe_tup (pa_cons (pv 5) pa_nil)))))))
  (pss_one (ps_ret (pv 2)))))), ?_⟩
    refine ⟨szl (Nat.zero_le _), fun z hz => ⟨szl (show 1 ≤ 100000 by decide), fun L hL => ?_⟩⟩
    have e1 : Ex H (upd H z (.tup [])) := Ex.new hz
    have e2 : Ex (upd H z (.tup [])) (upd (upd H z (.tup [])) L (.lst [.ref z])) := Ex.new hL
    refine ⟨_, rfl, _, rfl, by omega, by omega, ?_⟩
    refine for_range (lo := 0) (n := (n : Int).toNat) (fun i σ' H' => ∃ (L : Addr) (ws : List V) (y : Option V), σ' = [some (.int n), some (.ref a), some (.ref L), y, none, none] ∧ Ex H H' ∧ H L = none ∧ H' L = some (.lst ws) ∧ RowsA K H' ws (rows i ts))
      ⟨L, _, none, rfl, e1.trans e2, back e1 hL, upd_same, .cons ⟨z, [], rfl, Evl.ex_t e2 (.inl (.inl upd_same)), .nil⟩ .nil⟩ ?_ ?_
    · rintro i σ' H' hi ⟨L, ws, y, rfl, e, hL0, hL, hw⟩
      have rl := rows_small (m := i) (ts := ts) (by omega) hn ht
      have wl := Pa.len hw
      refine ⟨_, rfl, L, rfl, ⟨ws, .inl (.inl hL)⟩, fun D hD => ?_⟩
      refine ⟨fun i' m H2 => i' + m = ws.length ∧ Ex H' H2 ∧ ∃ acc, H2 D = some (.lst acc) ∧ RowsA K H2 acc (((rows i ts).take i').flatMap (ext1 ts)), ⟨ws.length, by simp, Ex.new hD, [], upd_same, by simp; exact .nil⟩, ?_⟩
      rintro i' m H2 ⟨em, e3, acc, hacc, hra⟩
      cases m with
      | zero =>
        refine .inl ⟨⟨ws, Evl.ex_l e3 (.inl (.inl hL)), by omega⟩, D, acc, _, rfl, e.trans e3, back e hD, hacc, ?_⟩
        rw [show i' = (rows i ts).length by omega, List.take_length] at hra
        rw [rows_succ]
        exact hra
      | succ m =>
        have hi' : i' < ws.length := by omega
        refine .inr ⟨⟨ws, ws[i'], Evl.ex_l e3 (.inl (.inl hL)), List.getElem?_eq_getElem hi'⟩, fun H3 => Ex H' H3 ∧ ∃ acc, H3 D = some (.lst acc) ∧ RowsA K H3 acc (((rows i ts).take (i' + 1)).flatMap (ext1 ts)), fun H3 h3 => ⟨m, Nat.lt_succ_self _, by omega, h3⟩, ?_⟩
        rintro x H3 ⟨rfl, hy⟩
        have hxi := hy ws (Evl.ex_l e3 (.inl (.inl hL)))
        obtain ⟨row, hrow, ra, rus, rfl, hra1, hra2⟩ := Pa.get' hw hxi
        refine ⟨rfl, ?_⟩
        simp only [tYes, if_true]
        refine ⟨_, rfl, a, rfl, ⟨us, Evl.ex_t (e.trans e3) ha⟩, ?_⟩
        refine ⟨fun j k' H4 => j + k' = us.length ∧ Ex H' H4 ∧ ∃ acc, H4 D = some (.lst acc) ∧ RowsA K H4 acc (((rows i ts).take i').flatMap (ext1 ts) ++ ext1 (ts.take j) row), ⟨us.length, by simp, e3, acc, hacc, by simpa [ext1] using hra⟩, ?_⟩
        rintro j k' H4 ⟨ek, e4, acc4, hacc4, hra4⟩
        cases k' with
        | zero =>
          refine .inl ⟨⟨us, Evl.ex_t (e.trans e4) ha, by omega⟩, e4, acc4, hacc4, ?_⟩
          rw [flat_snoc hrow]
          rw [show j = ts.length by omega, List.take_length] at hra4
          exact hra4
        | succ k' =>
          have hj : j < us.length := by omega
          refine .inr ⟨⟨us, us[j], Evl.ex_t (e.trans e4) ha, List.getElem?_eq_getElem hj⟩, fun H5 => Ex H' H5 ∧ ∃ acc, H5 D = some (.lst acc) ∧ RowsA K H5 acc (((rows i ts).take i').flatMap (ext1 ts) ++ ext1 (ts.take (j + 1)) row), fun H5 h5 => ⟨k', Nat.lt_succ_self _, by omega, h5⟩, ?_⟩
          rintro x H5 ⟨rfl, hy5⟩
          have hxj := hy5 us (Evl.ex_t (e.trans e4) ha)
          obtain ⟨t, ht1, hxt⟩ := Pa.get' hx hxj
          refine ⟨rfl, ?_⟩
          simp only [tYes, if_true]
          refine ⟨_, rfl, _, rfl, szl (show 1 ≤ 100000 by decide), fun b hb => ?_⟩
          have e5 : Ex H5 (upd H5 b (.tup [x])) := Ex.new hb
          refine cat_snoc (K := K) (Evl.ex_t (e4.trans e5) hra1) (.inl (.inl upd_same)) (by have := row_small hra2 (rows_row hrow); omega) fun p H6 e6 hp => ?_
          have hacc6 := (e5.trans e6) _ _ hacc4
          have al := Pa.len hra4
          rw [List.length_append, flat_len, ext1_len, List.length_take, List.length_take] at al
          have l1 : min i' (rows i ts).length * ts.length ≤ 16 * 4 := Nat.mul_le_mul (by omega) ht
          have k6 : Tk K H6 (upd H6 D (.lst (acc4 ++ [.ref p]))) := Tk.xb hacc6 rfl Xb.upd
          refine ⟨acc4, hacc6, szs (by omega), ((e4.trans e5).trans e6).mutN hD, _, upd_same, ?_⟩
          rw [ext1_snoc ht1, ← List.append_assoc]
          have k46 : Tk K H5 (upd H6 D (.lst (acc4 ++ [.ref p]))) := (Tk.ex (e5.trans e6)).trans k6
          refine Pa.snoc (RowsA.up hra4 k46) ⟨p, _, rfl, k6 _ _ hp, Pa.snoc (TsA.up hra2 ((Tk.ex e4).trans k46)) (hxt.up ((Tk.ex (e.trans e4)).trans k46))⟩
    · rintro σ' H' ⟨L, ws, y, rfl, e, hL0, hL, hw⟩
      rw [Int.toNat_natCast] at hw
      exact ⟨_, rfl, q L ws H' e hL0 hL hw⟩

end
end Orl
set_option Elab.async false
set_option linter.all false
set_option maxRecDepth 100000
set_option maxHeartbeats 4000000
namespace Orl
open PySem PySem.Spec PyProof.Rows L2
section
variable {P : Program} {w : World} {K : PySem.W.Frag} {mg : Str → Option Value} {base : Heap} {k : Nat} {f : Addr}
/-! _law_choices, _law_table -/
abbrev N_law_choices : List Str := ["_law_terms", "_law_many", "_law_rows", "_law_k", "_law_longer", "_law_row", "_law_term_here"]
theorem sc__law_choices : FnScope N_law_choices ["_law_terms", "_law_many"] (defScope s_law_choices) := ⟨rfl, rfl, rfl, by decide +kernel, rfl, by decide +kernel, by decide +kernel⟩
theorem ok__law_choices (F : FnP K "_law_choices" s_law_choices f) (Tx : Top mg) : FnG P w K mg base (k + 1) f 2 (spChoi K false) := by
  refine F.ok sc__law_choices (fun _ _ _ _ _ _ us hl => match us, hl with | [_, _], _ => rfl) (fun vs H Q h => ?_) (fun cdv A outer s H vs Q hr hG h => ?_)
  · obtain ⟨n, a, us, ts, rfl, _⟩ := h
    rfl
  · have nd := sc__law_choices.nd
    obtain ⟨n, a, us, ts, rfl, ha, hx, hn, ht, q⟩ := h
    rw [if_neg (by decide)] at ha ⊢
    have hlen := Pa.len hx
    refine ⟨_, ((pss_cons (ps_set (i := 2) nd rfl (Or.inl rfl) (pe_lst (pa_cons (pe_tup pa_nil) pa_nil)))
  (pss_cons (ps_for PassesOwn.never rfl (pi_range1 (by rfl) Tx.range (pa_cons (pv 1) pa_nil)) (pg_name (i := 3) nd rfl (Or.inl rfl))
    (pss_cons (ps_set (i := 4) nd rfl (Or.inl rfl) (pe_lst pa_nil))
  (pss_cons (ps_for PassesOwn.never rfl (pi_list (pe_callTy call_list_of (by rfl) Tx.list (by decide +kernel) (pa_cons (pv 2) pa_nil))) (pg_name (i := 5) nd rfl (Or.inl rfl))
    (pss_one (ps_for PassesOwn.never rfl (pi_list (pv 0)) (pg_name (i := 6) nd rfl (Or.inl rfl))
    (pss_one (ps_expr (pe_bm PySem.F.plainAttrs_list PySem.F.slot_list_append PySem.F.type_list_append mt_append (pv 4) (pa_cons (pe_op op_catA (pv 5) (pe_tup (pa_cons (pv 6) pa_nil))) pa_nil)))))))
  (pss_one (ps_set (i := 2) nd rfl (Or.inl rfl) (pe_callTy call_list_of (by rfl) Tx.list (by decide +kernel) (pa_cons (pv 4) pa_nil)))))))
  (pss_one (ps_ret (pv 2)))))), ?_⟩
    refine ⟨szl (Nat.zero_le _), fun z hz => ⟨szl (show 1 ≤ 100000 by decide), fun L hL => ?_⟩⟩
    have e1 : Ex H (upd H z (.tup [])) := Ex.new hz
    have e2 : Ex (upd H z (.tup [])) (upd (upd H z (.tup [])) L (.lst [.ref z])) := Ex.new hL
    refine ⟨_, rfl, _, rfl, by omega, by omega, ?_⟩
    refine for_range (lo := 0) (n := (n : Int).toNat) (fun i σ' H' => ∃ (L : Addr) (ws : List V) (y1 y2 y3 y4 : Option V), σ' = [some (.ref a), some (.int n), some (.ref L), y1, y2, y3, y4] ∧ Ex H H' ∧ H L = none ∧ H' L = some (.lst ws) ∧ RowsA K H' ws (rows i ts))
      ⟨L, _, none, none, none, none, rfl, e1.trans e2, back e1 hL, upd_same, .cons ⟨z, [], rfl, Evl.ex_t e2 (.inl (.inl upd_same)), .nil⟩ .nil⟩ ?_ ?_
    · rintro i σ' H' hi ⟨L, ws, y1, y2, y3, y4, rfl, e, hL0, hL, hw⟩
      have rl := rows_small (m := i) (ts := ts) (by omega) hn ht
      have wl := Pa.len hw
      refine ⟨szl (Nat.zero_le _), fun D hD => ?_⟩
      have f1 : Ex H' (upd H' D (.lst [])) := Ex.new hD
      refine ⟨_, rfl, L, _, rfl, .inl (.inl (.inl (f1 _ _ hL))), fun l hl => ?_⟩
      have f2 : Ex (upd H' D (.lst [])) (upd (upd H' D (.lst [])) l (.lst ws)) := Ex.new hl
      have D0 : (upd H' D (.lst [])) D = some (.lst []) := upd_same
      refine ⟨l, rfl, ⟨ws, .inl (.inl upd_same)⟩, ?_⟩
      refine for_list (xs := ws) (fun i' σ2 H2 => ∃ (acc : List V) (y3 y4 : Option V), σ2 = [some (.ref a), some (.int n), some (.ref L), some (.int (0 + (i : Int))), some (.ref D), y3, y4] ∧ Ex H' H2 ∧ H2 l = some (.lst ws) ∧ H2 D = some (.lst acc) ∧ RowsA K H2 acc (((rows i ts).take i').flatMap (ext1 ts)))
        ⟨[], _, _, rfl, f1.trans f2, upd_same, f2 _ _ D0, by simp; exact .nil⟩ (fun i' σ2 H2 _ h => by obtain ⟨_, _, _, _, _, h, _⟩ := h; exact .inl (.inl h)) ?_ ?_
      · rintro i' x σ2 H2 hxi ⟨acc, y3, y4, rfl, e3, hl2, hacc, hra⟩
        obtain ⟨row, hrow, ra, rus, rfl, hra1, hra2⟩ := Pa.get' hw hxi
        have lD : l ≠ D := ne_new D0 hl |>.symm
        refine ⟨_, rfl, a, rfl, ⟨us, .inl (.inl ((e.trans e3) _ _ ha))⟩, ?_⟩
        refine for_list (xs := us) (fun j σ4 H4 => ∃ (acc : List V) (y4 : Option V), σ4 = [some (.ref a), some (.int n), some (.ref L), some (.int (0 + (i : Int))), some (.ref D), some (.ref ra), y4] ∧ Ex H' H4 ∧ H4 l = some (.lst ws) ∧ H4 D = some (.lst acc) ∧ RowsA K H4 acc (((rows i ts).take i').flatMap (ext1 ts) ++ ext1 (ts.take j) row))
          ⟨acc, _, rfl, e3, hl2, hacc, by simpa [ext1] using hra⟩ (fun j σ4 H4 _ h => by obtain ⟨_, _, _, e4, _⟩ := h; exact .inl (.inl ((e.trans e4) _ _ ha))) ?_ ?_
        · rintro j x σ4 H4 hxj ⟨acc4, y4, rfl, e4, hl4, hacc4, hra4⟩
          obtain ⟨t, ht1, hxt⟩ := Pa.get' hx hxj
          refine ⟨_, rfl, .inl ⟨rfl, _, .inl (.inl hacc4)⟩, ?_⟩
          refine ⟨_, rfl, _, rfl, szl (show 1 ≤ 100000 by decide), fun b hb => ?_⟩
          have e5 : Ex H4 (upd H4 b (.tup [x])) := Ex.new hb
          refine cat_snoc (K := K) (Evl.ex_t (e4.trans e5) hra1) (.inl (.inl upd_same)) (by have := row_small hra2 (rows_row hrow); omega) fun p H6 e6 hp => ?_
          have hacc6 := (e5.trans e6) _ _ hacc4
          have al := Pa.len hra4
          rw [List.length_append, flat_len, ext1_len, List.length_take, List.length_take] at al
          have l1 : min i' (rows i ts).length * ts.length ≤ 16 * 4 := Nat.mul_le_mul (by omega) ht
          have k6 : Tk K H6 (upd H6 D (.lst (acc4 ++ [.ref p]))) := Tk.xb hacc6 rfl Xb.upd
          refine ⟨D, acc4, _, rfl, rfl, hacc6, szs (by omega), acc4 ++ [.ref p], _, rfl, ((e4.trans e5).trans e6).mutN hD, by rw [upd_ne lD]; exact (e5.trans e6) _ _ hl4, upd_same, ?_⟩
          rw [ext1_snoc ht1, ← List.append_assoc]
          have k46 : Tk K H4 (upd H6 D (.lst (acc4 ++ [.ref p]))) := (Tk.ex (e5.trans e6)).trans k6
          refine Pa.snoc (RowsA.up hra4 k46) ⟨p, _, rfl, k6 _ _ hp, Pa.snoc (TsA.up hra2 ((Tk.ex e4).trans k46)) (hxt.up ((Tk.ex (e.trans e4)).trans k46))⟩
        · rintro σ4 H4 ⟨acc4, y4, rfl, e4, hl4, hacc4, hra4⟩
          rw [hlen, List.take_length, ← flat_snoc hrow] at hra4
          exact ⟨acc4, _, _, rfl, e4, hl4, hacc4, hra4⟩
      · rintro σ2 H2 ⟨acc, y3, y4, rfl, e3, hl2, hacc, hra⟩
        rw [wl, List.take_length, ← rows_succ] at hra
        refine ⟨_, rfl, D, _, rfl, .inl (.inl (.inl hacc)), fun l' hl' => ?_⟩
        have f3 : Ex H2 (upd H2 l' (.lst acc)) := Ex.new hl'
        exact ⟨l', acc, _, _, _, _, rfl, (e.trans e3).trans f3, back (e.trans e3) hl', upd_same, RowsA.up hra (Tk.ex f3)⟩
    · rintro σ' H' ⟨L, ws, y1, y2, y3, y4, rfl, e, hL0, hL, hw⟩
      rw [Int.toNat_natCast] at hw
      exact ⟨_, rfl, q L ws H' e hL0 hL hw⟩
def spTable (K : PySem.W.Frag) : Pr := fun vs H Q => ∃ (a : Addr) (us : List V), vs = [.ref a] ∧ SqT K H a us ∧ us.length ≤ 100 ∧ ∀ p H', Ex H H' → H' p = some (.dK (rowTab us us.length)) → Q (.ref p) H'
abbrev N_law_table : List Str := ["_law_terms", "_law_table_here", "_law_k"]
theorem sc__law_table : FnScope N_law_table ["_law_terms"] (defScope s_law_table) := ⟨rfl, rfl, rfl, by decide +kernel, rfl, by decide +kernel, by decide +kernel⟩
theorem ok__law_table (F : FnP K "_law_table" s_law_table f) (Tx : Top mg) : FnG P w K mg base (k + 1) f 1 (spTable K) := by
  refine F.ok sc__law_table (fun _ _ _ _ _ _ us hl => match us, hl with | [_], _ => rfl) (fun vs H Q h => ?_) (fun cdv A outer s H vs Q hr hG h => ?_)
  · obtain ⟨a, us, rfl, _⟩ := h
    rfl
  · have nd := sc__law_table.nd
    obtain ⟨a, us, rfl, ha, hn, q⟩ := h
    refine ⟨_, ((pss_cons (ps_set (i := 1) nd rfl (Or.inl rfl) pe_dnewK)
  (pss_cons (ps_for PassesOwn.never rfl (pi_range1 (by rfl) Tx.range (pa_cons (pe_callB call_len_seq (by rfl) Tx.len (by decide +kernel) (pa_cons (pv 0) pa_nil)) pa_nil)) (pg_name (i := 2) nd rfl (Or.inl rfl))
    (pss_one (ps_dput (hu_of hr) (pv 1) (pv 2) (pe_ix ix_tup (pv 0) (pv 2) (fun _ _ => rfl)) rfl)))
  (pss_one (ps_ret (pv 1)))))), ?_⟩
    refine fun c hc => ?_
    have e1 : Ex H (upd H c (.dK [])) := Ex.new hc
    have hc1 : upd H c (.dK []) c = some (.dK []) := upd_same
    refine ⟨_, rfl, a, us, rfl, .inr (Evl.ex_t e1 ha), (us.length : Int), rfl, by omega, by omega, ?_⟩
    refine for_range (lo := 0) (n := (us.length : Int).toNat) (fun i σ' H' => ∃ (y : Option V), σ' = [some (.ref a), some (.ref c), y] ∧ Xb c (upd H c (.dK [])) H' ∧ H' c = some (.dK (rowTab us i))) ⟨none, rfl, Xb.refl _ _, hc1⟩ ?_ ?_
    · rintro i σ' H' hi ⟨y, rfl, e, hc'⟩
      have hi' : i < us.length := by omega
      have e0 : (0 : Int) + (i : Int) = (i : Int) := by omega
      have ha' : SqT K H' a us := Tk.xb hc1 rfl e a us (Evl.ex_t e1 ha)
      refine ⟨_, rfl, _, rfl, a, us, _, us.getD i .non, rfl, rfl, ha', atN e0 (by rw [List.getD_eq_getElem?_getD, List.getElem?_eq_getElem hi']; rfl), ?_⟩
      refine ⟨_, rfl, _, rfl, c, _, rfl, DPut.k (k := Sum.inl (0 + (i : Int))) hc' (szs (by rw [rowTab_len]; omega)), ?_⟩
      refine ⟨_, rfl, e.mut, ?_⟩
      rw [e0, rowTab_put]
      exact upd_same
    · rintro σ' H' ⟨y, rfl, e, hc'⟩
      rw [Int.toNat_natCast] at hc'
      exact ⟨_, rfl, q c H' (Ex.ofXb ((Xb.ex e1).trans e) hc) hc'⟩

end
end Orl
set_option Elab.async false
set_option linter.all false
set_option maxRecDepth 100000
set_option maxHeartbeats 4000000
namespace Orl
open PySem PySem.Spec PyProof.Rows L2
section
variable {P : Program} {w : World} {K : PySem.W.Frag} {mg : Str → Option Value} {base : Heap} {k : Nat} {f : Addr}
/-! _law_collect, _law_variables, _law_numbered, _law_size -/
theorem natsV_in (us : List Nat) (n : Nat) : inV (.int (n : Int)) (natsV us) = decide (n ∈ us) := by
  unfold natsV
  induction us with
  | nil => rfl
  | cons u us ih =>
    have e : inV (.int (n : Int)) (List.map (fun (n : Nat) => V.int (n : Int)) (u :: us)) = (decide ((u : Int) = (n : Int)) || inV (.int (n : Int)) (List.map (fun (n : Nat) => V.int (n : Int)) us)) := rfl
    rw [e, ih, Bool.eq_iff_iff]
    simp only [Bool.or_eq_true, decide_eq_true_eq, List.mem_cons]
    constructor
    · rintro (h | h)
      · exact .inl (by omega)
      · exact .inr h
    · rintro (h | h)
      · exact .inl (by omega)
      · exact .inr h
theorem flat_nats (us : List Nat) : (natsV us).all flatV = true := by
  unfold natsV
  induction us with
  | nil => rfl
  | cons u us ih => rw [List.map_cons, List.all_cons, ih]; rfl
theorem natsV_snoc (us : List Nat) (n : Nat) : natsV us ++ [.int (n : Int)] = natsV (us ++ [n]) := by
  unfold natsV
  rw [List.map_append]
  rfl
def spColl (K : PySem.W.Frag) (d : Nat) : Pr := fun vs H Q => ∃ (v : V) (t : T) (c : Addr) (us : List Nat), vs = [v, .ref c] ∧ TA K H v t ∧ Fit t d ∧ H c = some (.lst (natsV us)) ∧ us.length + 4 ^ d ≤ 90000 ∧
  ∀ H', Xb c H H' → H' c = some (.lst (natsV (vadd us t))) → Q .non H'
abbrev N_law_collect : List Str := ["_law_term_here", "_law_found", "_law_part"]
theorem sc__law_collect : FnScope N_law_collect ["_law_term_here", "_law_found"] (defScope s_law_collect) := ⟨rfl, rfl, rfl, by decide +kernel, rfl, by decide +kernel, by decide +kernel⟩
theorem ok__law_collect (F : FnP K "_law_collect" s_law_collect f) (Tx : Top mg) (d : Nat) (h_law_collect : 0 < d → Has P w K mg base k "_law_collect" 2 (spColl K (d - 1))) : FnG P w K mg base (k + 1) f 2 (spColl K d) := by
  by_cases hd : 0 < d
  · have h_law_collect := h_law_collect hd
    refine F.ok sc__law_collect (fun _ _ _ _ _ _ us hl => match us, hl with | [_, _], _ => rfl) (fun vs H Q h => ?_) (fun cdv A outer s H vs Q hr hG h => ?_)
    · obtain ⟨v, t, c, us, rfl, _⟩ := h
      rfl
    · have nd := sc__law_collect.nd
      obtain ⟨v, t, c, us, rfl, hv, hf, hc, hz, q⟩ := h
      refine ⟨_, ((pss_one (ps_if (pt_val (pe_callB call_isi (by rfl) Tx.isinstance (by decide +kernel) (pa_cons (pv 0) (pa_cons (pe_bltn (v := .ty "int") (by rfl) Tx.int boot_int rfl) pa_nil))))
    (pss_one (ps_if (pt_cmpR op_notIn_seq (pv 0) (pv 1) (by rfl))
    (pss_one (ps_expr (pe_bm PySem.F.plainAttrs_list PySem.F.slot_list_append PySem.F.type_list_append mt_append (pv 1) (pa_cons (pv 0) pa_nil))))
    pss_nil))
    (pss_one (ps_for PassesOwn.never rfl (pi_tup (pe_slice sl_tupA (pv 0) (po_some pe_int) po_none)) (pg_name (i := 2) nd rfl (Or.inl rfl))
    (pss_one (ps_expr (pe_own h_law_collect hr hG (by rfl) (pa_cons (pv 2) (pa_cons (pv 1) pa_nil)))))))))), ?_⟩
      cases t with
      | v n =>
        obtain rfl := hv.inv_v
        have : 1 ≤ 4 ^ d := Nat.one_le_pow _ _ (by decide)
        refine ⟨_, rfl, _, _, _, _, true, rfl, .ty "int", .base (.int _), kit_ty (by decide +kernel), true, rfl, iteT ?_⟩
        refine ⟨_, rfl, _, rfl, c, _, rfl, .inl (.inl (.inl hc)), rfl, flat_nats us, _, rfl, ?_⟩
        simp only [natsV_in]
        by_cases hm : n ∈ us
        · rw [decide_eq_true hm]
          refine iteF ?_
          refine q H (Xb.refl _ _) ?_
          simp only [vadd, add1, if_pos hm]
          exact hc
        · rw [decide_eq_false hm]
          refine iteT ?_
          refine ⟨_, rfl, .inl ⟨rfl, _, .inl (.inl hc)⟩, ?_⟩
          refine ⟨_, rfl, c, _, _, rfl, rfl, hc, szs (by rw [natsV_len]; omega), ?_⟩
          refine q _ Xb.upd ?_
          rw [upd_same, natsV_snoc]
          simp only [vadd, add1, if_neg hm]
      | a g ts =>
        obtain ⟨a, ws, rfl, ha, hu⟩ := hv.inv_a
        simp only [Fit] at hf
        have hlen := Pa.len hu
        refine ⟨_, rfl, _, _, _, _, false, rfl, .ty "int", tyx_tup ha, kit_ty (by decide +kernel), false, rfl, iteF ?_⟩
        refine ⟨_, rfl, 1, rfl, ?_⟩
        refine ⟨a, _, rfl, ha, fun z => (six1 z).elim, fun _ b hb => ?_⟩
        rw [cut1]
        have e1 : Ex H (upd H b (.tup ws)) := Ex.new hb
        have hc1 := e1 _ _ hc
        refine ⟨b, rfl, ⟨ws, .inl (.inl upd_same)⟩, ?_⟩
        refine for_tup (xs := ws) (fun i σ' H' => ∃ (y : Option V), σ' = [some (.ref a), some (.ref c), y] ∧ Xb c (upd H b (.tup ws)) H' ∧ H' c = some (.lst (natsV (vadds us (ts.take i))))) ⟨none, rfl, Xb.refl _ _, hc1⟩
          (fun i σ' H' _ ⟨y, _, e, _⟩ => Tk.xb hc1 rfl e b ws (.inl (.inl upd_same))) ?_ ?_
        · rintro i x σ' H' hx ⟨y, rfl, e, hc'⟩
          obtain ⟨t, ht, hxt⟩ := Pa.get' hu hx
          have l1 := vadds_len us (ts.take i) (d - 1) (fits_take hf.2.2.2)
          have l2 : (ts.take i).length ≤ 2 := by
            rw [List.length_take]
            have := (List.getElem?_eq_some_iff.mp ht).1
            omega
          have l3 : (ts.take i).length * 4 ^ (d - 1) ≤ 2 * 4 ^ (d - 1) := Nat.mul_le_mul_right _ l2
          have l4 : 4 ^ d = 4 ^ (d - 1) * 4 := by
            obtain ⟨j, rfl⟩ : ∃ j, d = j + 1 := ⟨d - 1, by omega⟩
            rw [Nat.pow_succ]
            rfl
          refine ⟨_, rfl, _, rfl, x, t, c, _, rfl, hxt.up ((Tk.ex e1).trans (Tk.xb hc1 rfl e)), fits_iff.mp hf.2.2.2 t (List.mem_of_getElem? ht), hc', by omega, fun H'' e2 hc'' => ?_⟩
          refine ⟨some x, rfl, e.trans e2, ?_⟩
          rw [take_snoc ht, vadds_snoc]
          exact hc''
        · rintro σ' H' ⟨y, rfl, e, hc'⟩
          rw [hlen, List.take_length] at hc'
          refine q _ ((Xb.ex e1).trans e) ?_
          simp only [vadd]
          exact hc'
  · refine F.ok sc__law_collect (fun _ _ _ _ _ _ us hl => match us, hl with | [_, _], _ => rfl) (fun vs H Q h => ?_) (fun cdv A outer s H vs Q hr hG h => ?_)
    · obtain ⟨v, t, c, us, rfl, _⟩ := h
      rfl
    · have nd := sc__law_collect.nd
      obtain ⟨v, t, c, us, rfl, hv, hf, hc, hz, q⟩ := h
      refine ⟨_, ((pss_one (ps_if (pt_val (pe_callB call_isi (by rfl) Tx.isinstance (by decide +kernel) (pa_cons (pv 0) (pa_cons (pe_bltn (v := .ty "int") (by rfl) Tx.int boot_int rfl) pa_nil))))
    (pss_one (ps_if (pt_cmpR op_notIn_seq (pv 0) (pv 1) (by rfl))
    (pss_one (ps_expr (pe_bm PySem.F.plainAttrs_list PySem.F.slot_list_append PySem.F.type_list_append mt_append (pv 1) (pa_cons (pv 0) pa_nil))))
    pss_nil))
    pss_never))), ?_⟩
      cases t with
      | v n =>
        obtain rfl := hv.inv_v
        have : 1 ≤ 4 ^ d := Nat.one_le_pow _ _ (by decide)
        refine ⟨_, rfl, _, _, _, _, true, rfl, .ty "int", .base (.int _), kit_ty (by decide +kernel), true, rfl, iteT ?_⟩
        refine ⟨_, rfl, _, rfl, c, _, rfl, .inl (.inl (.inl hc)), rfl, flat_nats us, _, rfl, ?_⟩
        simp only [natsV_in]
        by_cases hm : n ∈ us
        · rw [decide_eq_true hm]
          refine iteF ?_
          refine q H (Xb.refl _ _) ?_
          simp only [vadd, add1, if_pos hm]
          exact hc
        · rw [decide_eq_false hm]
          refine iteT ?_
          refine ⟨_, rfl, .inl ⟨rfl, _, .inl (.inl hc)⟩, ?_⟩
          refine ⟨_, rfl, c, _, _, rfl, rfl, hc, szs (by rw [natsV_len]; omega), ?_⟩
          refine q _ Xb.upd ?_
          rw [upd_same, natsV_snoc]
          simp only [vadd, add1, if_neg hm]
      | a g ts =>
        simp only [Fit] at hf
        exact absurd hf.1 hd
def spVars (K : PySem.W.Frag) : Pr := fun vs H Q => ∃ (a : Addr) (xs : List V) (ts : List T), vs = [.ref a] ∧ (SqL K H a xs ∨ SqT K H a xs) ∧ TsA K H xs ts ∧ Fits ts 3 ∧ ts.length ≤ 100 ∧
  ∀ p H', Ex H H' → H' p = some (.lst (natsV (vars ts))) → Q (.ref p) H'
abbrev N_law_variables : List Str := ["_law_terms", "_law_found", "_law_term_here"]
theorem sc__law_variables : FnScope N_law_variables ["_law_terms"] (defScope s_law_variables) := ⟨rfl, rfl, rfl, by decide +kernel, rfl, by decide +kernel, by decide +kernel⟩
theorem ok__law_variables (F : FnP K "_law_variables" s_law_variables f) (Tx : Top mg) (h_law_collect : Has P w K mg base k "_law_collect" 2 (spColl K 3)) : FnG P w K mg base (k + 1) f 1 (spVars K) := by
  refine F.ok sc__law_variables (fun _ _ _ _ _ _ us hl => match us, hl with | [_], _ => rfl) (fun vs H Q h => ?_) (fun cdv A outer s H vs Q hr hG h => ?_)
  · obtain ⟨a, xs, ts, rfl, _⟩ := h
    rfl
  · have nd := sc__law_variables.nd
    obtain ⟨a, xs, ts, rfl, ha, hx, hf, hn, q⟩ := h
    refine ⟨_, ((pss_cons (ps_set (i := 1) nd rfl (Or.inl rfl) (pe_lst pa_nil))
  (pss_cons (ps_for PassesOwn.never rfl (pi_seq (pv 0)) (pg_name (i := 2) nd rfl (Or.inl rfl))
    (pss_one (ps_expr (pe_own h_law_collect hr hG (by rfl) (pa_cons (pv 2) (pa_cons (pv 1) pa_nil))))))
  (pss_one (ps_ret (pv 1)))))), ?_⟩
    refine ⟨szl (Nat.zero_le _), fun c hc => ?_⟩
    have e1 : Ex H (upd H c (.lst [])) := Ex.new hc
    have hlen := Pa.len hx
    have hc1 : upd H c (.lst []) c = some (.lst []) := upd_same
    have keep : ∀ {H'}, Xb c (upd H c (.lst [])) H' → Ex H H' := fun e => Ex.ofXb ((Xb.ex e1).trans e) hc
    rcases ha with ha | ha
    · refine .inl ⟨_, rfl, a, rfl, ⟨xs, Evl.ex_l e1 ha⟩, ?_⟩
      refine for_list (xs := xs) (fun i σ' H' => ∃ (y : Option V), σ' = [some (.ref a), some (.ref c), y] ∧ Xb c (upd H c (.lst [])) H' ∧ H' c = some (.lst (natsV (vadds [] (ts.take i))))) ⟨none, rfl, Xb.refl _ _, hc1⟩
        (fun i σ' H' _ ⟨y, _, e, _⟩ => Evl.ex_l (keep e) ha) ?_ ?_
      · rintro i x σ' H' hxi ⟨y, rfl, e, hc'⟩
        obtain ⟨t, ht, hxt⟩ := Pa.get' hx hxi
        have l1 := vadds_len [] (ts.take i) 3 (fits_take hf)
        have l2 : (ts.take i).length ≤ 100 := by
          rw [List.length_take]
          omega
        have l3 : (ts.take i).length * 4 ^ 3 ≤ 100 * 4 ^ 3 := Nat.mul_le_mul_right _ l2
        have l4 : 4 ^ 3 = 64 := by decide
        have l5 : ([] : List Nat).length = 0 := rfl
        refine ⟨_, rfl, _, rfl, x, t, c, _, rfl, hxt.up (Tk.ex (keep e)), fits_iff.mp hf t (List.mem_of_getElem? ht), hc', by omega, fun H'' e2 hc'' => ?_⟩
        refine ⟨some x, rfl, e.trans e2, ?_⟩
        rw [take_snoc ht, vadds_snoc]
        exact hc''
      · rintro σ' H' ⟨y, rfl, e, hc'⟩
        rw [hlen, List.take_length] at hc'
        exact ⟨_, rfl, q c H' (keep e) hc'⟩
    · refine .inr ⟨_, rfl, a, rfl, ⟨xs, Evl.ex_t e1 ha⟩, ?_⟩
      refine for_tup (xs := xs) (fun i σ' H' => ∃ (y : Option V), σ' = [some (.ref a), some (.ref c), y] ∧ Xb c (upd H c (.lst [])) H' ∧ H' c = some (.lst (natsV (vadds [] (ts.take i))))) ⟨none, rfl, Xb.refl _ _, hc1⟩
        (fun i σ' H' _ ⟨y, _, e, _⟩ => Evl.ex_t (keep e) ha) ?_ ?_
      · rintro i x σ' H' hxi ⟨y, rfl, e, hc'⟩
        obtain ⟨t, ht, hxt⟩ := Pa.get' hx hxi
        have l1 := vadds_len [] (ts.take i) 3 (fits_take hf)
        have l2 : (ts.take i).length ≤ 100 := by
          rw [List.length_take]
          omega
        have l3 : (ts.take i).length * 4 ^ 3 ≤ 100 * 4 ^ 3 := Nat.mul_le_mul_right _ l2
        have l4 : 4 ^ 3 = 64 := by decide
        have l5 : ([] : List Nat).length = 0 := rfl
        refine ⟨_, rfl, _, rfl, x, t, c, _, rfl, hxt.up (Tk.ex (keep e)), fits_iff.mp hf t (List.mem_of_getElem? ht), hc', by omega, fun H'' e2 hc'' => ?_⟩
        refine ⟨some x, rfl, e.trans e2, ?_⟩
        rw [take_snoc ht, vadds_snoc]
        exact hc''
      · rintro σ' H' ⟨y, rfl, e, hc'⟩
        rw [hlen, List.take_length] at hc'
        exact ⟨_, rfl, q c H' (keep e) hc'⟩

def spNumL (K : PySem.W.Frag) : Pr := fun vs H Q => ∃ (a : Addr) (xs : List V) (ts : List T), vs = [.ref a] ∧ SqL K H a xs ∧ TsA K H xs ts ∧ Fits ts 3 ∧ ts.length ≤ 100 ∧ ∀ p ys H', Ex H H' → H' p = some (.lst ys) → TsA K H' ys (numb ts) → Q (.ref p) H'
abbrev N_law_numbered : List Str := ["_law_terms", "_law_found", "_law_table_here", "_law_k", "_law_term_here"]
theorem sc__law_numbered : FnScope N_law_numbered ["_law_terms"] (defScope s_law_numbered) := ⟨rfl, rfl, rfl, by decide +kernel, rfl, by decide +kernel, by decide +kernel⟩
theorem ok__law_numbered (F : FnP K "_law_numbered" s_law_numbered f) (Tx : Top mg) (h_law_variables : Has P w K mg base k "_law_variables" 1 (spVars K)) (h_law_replaced : Has P w K mg base k "_law_replaced" 2 (spRepl K 3)) : FnG P w K mg base (k + 1) f 1 (spNumL K) := by
  refine F.ok sc__law_numbered (fun _ _ _ _ _ _ us hl => match us, hl with | [_], _ => rfl) (fun vs H Q h => ?_) (fun cdv A outer s H vs Q hr hG h => ?_)
  · obtain ⟨a, xs, ts, rfl, _⟩ := h
    rfl
  · have nd := sc__law_numbered.nd
    obtain ⟨a, xs, ts, rfl, ha, hx, hf, hn, q⟩ := h
    refine ⟨_, ((pss_cons (ps_set (i := 1) nd rfl (Or.inl rfl) (pe_own h_law_variables hr hG (by rfl) (pa_cons (pv 0) pa_nil)))
  (pss_cons (ps_set (i := 2) nd rfl (Or.inr rfl) pe_dnewK)
  (pss_cons (ps_for PassesOwn.never rfl (pi_range1 (by rfl) Tx.range (pa_cons (pe_callB call_len_seq (by rfl) Tx.len (by decide +kernel) (pa_cons (pv 1) pa_nil)) pa_nil)) (pg_name (i := 3) nd rfl (Or.inl rfl))
    (pss_one (ps_dput (hu_of hr) (pv 2) (pe_ix ix_list (pv 1) (pv 3) (fun _ _ => rfl)) (pv 3) rfl)))
  (pss_one (ps_ret (pe_lc (own := [("_law_term_here", 4)]) (g := gName 4) (tt := tYes) rfl nd (pi_list (pv 0)) (blkOk_by (own := [("_law_term_here", 4)]) (N := N_law_numbered) (sc := defScope s_law_numbered) (by decide +kernel)) (fun _ _ _ _ _ => pg_name (i := 4) nd rfl (Or.inl rfl)) (fun _ _ _ _ _ => pts_nil) (fun _ _ _ _ _ => (pe_own h_law_replaced hr hG (by rfl) (pa_cons (pv 4) (pa_cons (pv 2) pa_nil))))))))))), ?_⟩
    have hlen := Pa.len hx
    have vl := vars_len hf hn
    refine ⟨_, rfl, a, xs, ts, rfl, .inl ha, hx, hf, hn, fun p H1 e1 hp => ?_⟩
    refine fun c hc => ?_
    have e2 : Ex H1 (upd H1 c (.dK [])) := Ex.new hc
    have hc1 : upd H1 c (.dK []) c = some (.dK []) := upd_same
    refine ⟨_, rfl, p, _, rfl, .inl (.inl (.inl (e2 _ _ hp))), _, rfl, by rw [natsV_len]; omega, by rw [natsV_len]; omega, ?_⟩
    refine for_range (lo := 0) (n := ((natsV (vars ts)).length : Int).toNat) (fun i σ' H' => ∃ (y : Option V), σ' = [some (.ref a), some (.ref p), some (.ref c), y, none] ∧ Xb c (upd H1 c (.dK [])) H' ∧ H' c = some (.dK (idxTab (vars ts) i))) ⟨none, rfl, Xb.refl _ _, hc1⟩ ?_ ?_
    · rintro i σ' H' hi ⟨y, rfl, e, hc'⟩
      rw [natsV_len] at hi
      have e0 : (0 : Int) + (i : Int) = (i : Int) := by omega
      have pc : p ≠ c := ne_new hp hc
      have hp' : H' p = some (.lst (natsV (vars ts))) := e _ _ pc (e2 _ _ hp)
      refine ⟨_, rfl, _, rfl, _, rfl, _, rfl, p, _, _, _, rfl, rfl, .inl (.inl hp'), atN e0 (natsV_get (by omega)), ?_⟩
      refine ⟨c, _, rfl, DPut.k (k := Sum.inl (((vars ts).getD i 0 : Nat) : Int)) hc' (szs (by have := idxTab_len (vars ts) i; omega)), ?_⟩
      refine ⟨_, rfl, e.mut, ?_⟩
      rw [e0]
      exact upd_same
    · rintro σ' H' ⟨y, rfl, e, hc'⟩
      rw [Int.toNat_natCast, natsV_len] at hc'
      have e12 := e1.trans (Ex.ofXb ((Xb.ex e2).trans e) hc)
      refine ⟨_, rfl, a, rfl, ⟨xs, Evl.ex_l e12 ha⟩, ?_⟩
      intro L hL
      refine lc_ex (xs := xs) (fun H' i y => ∀ t, ts[i]? = some t → TA K H' y (sub (ren fun n => (vars ts).idxOf n) t)) (fun H H' i y k h t ht => (h t ht).up k) (ys_list fun H' e => Evl.ex_l e (Evl.ex_l e12 ha)) (by omega) (by intro _; rfl) ?_ hL ?_
      · intro i x H' Qk hxi e3 qk
        obtain ⟨t, ht, hxt⟩ := Pa.get' hx hxi
        refine ⟨_, rfl, _, rfl, x, t, c, _, ren fun n => (vars ts).idxOf n, rfl, hxt.up (Tk.ex (e12.trans e3)), fits_iff.mp hf t (List.mem_of_getElem? ht), e3 _ _ hc', fun n hn => ?_, ?_⟩
        · rw [idxTab_at (nodup_vars ts) (mem_vars.mpr (occs_iff.mpr ⟨t, List.mem_of_getElem? ht, hn⟩))]
          exact TA.var _
        · intro v' H'' e4 hv'
          refine qk v' H'' e4 fun t' ht' => ?_
          rw [ht] at ht'
          rw [← Option.some.inj ht']
          exact hv'
      · intro H' acc e3 hDa hl hR
        refine q L acc _ (e12.trans e3) hDa ?_
        unfold numb
        refine paired_of (by rw [hl, subs_map, List.length_map, hlen]) fun i y t hy ht => ?_
        obtain ⟨u, hu1, rfl⟩ := subs_get ht
        exact hR i y hy u hu1
def spSize (K : PySem.W.Frag) (d : Nat) : Pr := fun vs H Q => ∃ (v : V) (t : T), vs = [v] ∧ TA K H v t ∧ Fit t d ∧ ∀ (n : Nat) H', Ex H H' → n ≤ 4 ^ d → Q (.int n) H'
theorem ints_of : ∀ {acc : List V} {b : Nat}, (∀ (i : Nat) (y : V), acc[i]? = some y → ∃ n : Nat, n ≤ b ∧ y = .int (n : Int)) → ∃ (ns : List Int) (m : Nat), acc = ns.map V.int ∧ ns.sum = (m : Int) ∧ m ≤ acc.length * b
  | [], b, _ => ⟨[], 0, rfl, rfl, by simp⟩
  | y :: acc, b, h => by
    obtain ⟨n, hn, rfl⟩ := h 0 y rfl
    obtain ⟨ns, m, rfl, hs, hm⟩ := ints_of (acc := acc) (b := b) fun i y hy => h (i + 1) y (by simpa using hy)
    refine ⟨(n : Int) :: ns, n + m, rfl, by rw [List.sum_cons, hs]; rfl, ?_⟩
    rw [List.length_cons, Nat.succ_mul]
    omega
abbrev N_law_size : List Str := ["_law_term_here", "_law_part"]
theorem sc__law_size : FnScope N_law_size ["_law_term_here"] (defScope s_law_size) := ⟨rfl, rfl, rfl, by decide +kernel, rfl, by decide +kernel, by decide +kernel⟩
theorem ok__law_size (F : FnP K "_law_size" s_law_size f) (Tx : Top mg) (d : Nat) (hd4 : d ≤ 4) (h_law_size : 0 < d → Has P w K mg base k "_law_size" 1 (spSize K (d - 1))) : FnG P w K mg base (k + 1) f 1 (spSize K d) := by
  by_cases hd : 0 < d
  · have h_law_size := h_law_size hd
    refine F.ok sc__law_size (fun _ _ _ _ _ _ us hl => match us, hl with | [_], _ => rfl) (fun vs H Q h => ?_) (fun cdv A outer s H vs Q hr hG h => ?_)
    · obtain ⟨v, t, rfl, _⟩ := h
      rfl
    · have nd := sc__law_size.nd
      obtain ⟨v, t, rfl, hv, hf, q⟩ := h
      refine ⟨_, ((pss_cons (ps_if (pt_val (pe_callB call_isi (by rfl) Tx.isinstance (by decide +kernel) (pa_cons (pv 0) (pa_cons (pe_bltn (v := .ty "int") (by rfl) Tx.int boot_int rfl) pa_nil))))
    (pss_one (ps_ret pe_int))
    pss_nil)
  (pss_one (ps_ret (pe_op op_add pe_int (pe_callB (cr_sum rfl) (by rfl) Tx.sum (by decide +kernel) (pa_cons (pe_lc (own := [("_law_part", 1)]) (g := gName 1) (tt := tYes) rfl nd (pi_tup (pe_slice sl_tupA (pv 0) (po_some pe_int) po_none)) (blkOk_by (own := [("_law_part", 1)]) (N := N_law_size) (sc := defScope s_law_size) (by decide +kernel)) (fun _ _ _ _ _ => pg_name (i := 1) nd rfl (Or.inl rfl)) (fun _ _ _ _ _ => pts_nil) (fun _ _ _ _ _ => (pe_own h_law_size hr hG (by rfl) (pa_cons (pv 1) pa_nil)))) pa_nil))))))), ?_⟩
      have : 1 ≤ 4 ^ d := Nat.one_le_pow _ _ (by decide)
      cases t with
      | v n =>
        obtain rfl := hv.inv_v
        refine ⟨_, rfl, _, _, _, _, true, rfl, .ty "int", .base (.int _), kit_ty (by decide +kernel), true, rfl, iteT ?_⟩
        exact q 1 H (Ex.refl H) this
      | a g ts =>
        obtain ⟨a, us, rfl, ha, hu⟩ := hv.inv_a
        refine ⟨_, rfl, _, _, _, _, false, rfl, .ty "int", tyx_tup ha, kit_ty (by decide +kernel), false, rfl, iteF ?_⟩
        simp only [Fit] at hf
        refine ⟨_, rfl, 1, rfl, ?_⟩
        refine ⟨a, _, rfl, ha, fun z => (six1 z).elim, fun _ b hb => ?_⟩
        rw [cut1]
        have e2 : Ex H (upd H b (.tup us)) := Ex.new hb
        refine ⟨b, rfl, ⟨us, .inl (.inl upd_same)⟩, ?_⟩
        have hlen := Pa.len hu
        intro D hD
        refine lc_ex (K := K) (xs := us) (fun _ i y => ∃ n : Nat, n ≤ 4 ^ (d - 1) ∧ y = .int (n : Int)) (fun H H' i y k h => h) (ys_tup fun H' e => Evl.ex_t e (.inl (.inl upd_same))) (by omega) (by intro _; rfl) ?_ hD ?_
        · intro i x H' Qk hx e3 qk
          obtain ⟨t, ht, hxt⟩ := Pa.get' hu hx
          have e := e2.trans e3
          refine ⟨_, rfl, x, t, rfl, hxt.up (Tk.ex e), fits_iff.mp hf.2.2.2 t (List.mem_of_getElem? ht), fun n H'' e4 hn => qk _ H'' e4 ⟨n, hn, rfl⟩⟩
        · intro H' acc e3 hDa hl hR
          obtain ⟨ns, m, rfl, hs, hm⟩ := ints_of hR
          refine ⟨D, ns, rfl, .inl (.inl hDa), _, _, rfl, rfl, ?_⟩
          rw [hs]
          have l4 : 4 ^ d = 4 ^ (d - 1) * 4 := by
            obtain ⟨j, rfl⟩ : ∃ j, d = j + 1 := ⟨d - 1, by omega⟩
            rw [Nat.pow_succ]
            rfl
          have l5 : 1 ≤ 4 ^ (d - 1) := Nat.one_le_pow _ _ (by decide)
          have l6 : (ns.map V.int).length * 4 ^ (d - 1) ≤ 3 * 4 ^ (d - 1) := Nat.mul_le_mul_right _ (by omega)
          have := q (1 + m) H' (e2.trans e3) (by omega)
          have e : ((1 + m : Nat) : Int) = 1 + (m : Int) := by omega
          rw [e] at this
          exact this
  · refine F.ok sc__law_size (fun _ _ _ _ _ _ us hl => match us, hl with | [_], _ => rfl) (fun vs H Q h => ?_) (fun cdv A outer s H vs Q hr hG h => ?_)
    · obtain ⟨v, t, rfl, _⟩ := h
      rfl
    · have nd := sc__law_size.nd
      obtain ⟨v, t, rfl, hv, hf, q⟩ := h
      refine ⟨_, ((pss_cons (ps_if (pt_val (pe_callB call_isi (by rfl) Tx.isinstance (by decide +kernel) (pa_cons (pv 0) (pa_cons (pe_bltn (v := .ty "int") (by rfl) Tx.int boot_int rfl) pa_nil))))
    (pss_one (ps_ret pe_int))
    pss_nil)
  pss_never)), ?_⟩
      have : 1 ≤ 4 ^ d := Nat.one_le_pow _ _ (by decide)
      cases t with
      | v n =>
        obtain rfl := hv.inv_v
        refine ⟨_, rfl, _, _, _, _, true, rfl, .ty "int", .base (.int _), kit_ty (by decide +kernel), true, rfl, iteT ?_⟩
        exact q 1 H (Ex.refl H) this
      | a g ts =>
        simp only [Fit] at hf
        exact absurd hf.1 hd

end
end Orl
set_option Elab.async false
set_option linter.all false
set_option maxRecDepth 100000
set_option maxHeartbeats 4000000
namespace Orl
open PySem PySem.Spec PyProof.Rows L2
section
variable {P : Program} {w : World} {K : PySem.W.Frag} {mg : Str → Option Value} {base : Heap} {k : Nat} {f : Addr}
/-! _law_term, _law_atom -/
/-- lists that a term is drawn from: symbols, variables -/
structure Src (K : PySem.W.Frag) (H : Hp) (p sy vr : Addr) (ss : List V) (m : Nat) : Prop where
  s : H sy = some (.lst ss)
  sp : sy ≠ p
  sa : Syms K H ss
  s0 : 0 < ss.length
  s1 : ss.length ≤ 50
  v : H vr = some (.lst (rangeV m))
  vp : vr ≠ p
  m3 : m ≤ 3
theorem Src.dr {p l sy vr : Addr} {ss : List V} {m : Nat} {H H' : Hp} (S : Src K H p sy vr ss m) (T : Tape H p l) (D : Dr p l H H') : Src K H' p sy vr ss m :=
  ⟨D.keep S.sp S.s, S.sp, S.sa.up (D.tk T), S.s0, S.s1, D.keep S.vp S.v, S.vp, S.m3⟩
theorem Src.ex {p sy vr : Addr} {ss : List V} {m : Nat} {H H' : Hp} (S : Src K H p sy vr ss m) (e : Ex H H') : Src K H' p sy vr ss m :=
  ⟨e _ _ S.s, S.sp, S.sa.up (Tk.ex e), S.s0, S.s1, e _ _ S.v, S.vp, S.m3⟩
def spTerm (K : PySem.W.Frag) (d : Nat) : Pr := fun vs H Q => ∃ (p l sy vr : Addr) (ss : List V) (m : Nat), vs = [.ref p, .ref sy, .ref vr, .int d] ∧ Tape H p l ∧ Src K H p sy vr ss m ∧ ∀ v t H', Dr p l H H' → TA K H' v t → Fit t d → Lo t m → Q v H'
abbrev N_law_term : List Str := ["_law_tape_here", "_law_symbols_here", "_law_variables_here", "_law_depth", "_law_choice", "_law_symbol", "_law_k"]
theorem sc__law_term : FnScope N_law_term ["_law_tape_here", "_law_symbols_here", "_law_variables_here", "_law_depth"] (defScope s_law_term) := ⟨rfl, rfl, rfl, by decide +kernel, rfl, by decide +kernel, by decide +kernel⟩
theorem ok__law_term (F : FnP K "_law_term" s_law_term f) (Tx : Top mg) (d : Nat) (hd1 : 1 ≤ d) (hd2 : d ≤ 2) (h_law_draw : Has P w K mg base k "_law_draw" 2 spDraw) (h_law_term : 1 < d → Has P w K mg base k "_law_term" 4 (spTerm K (d - 1))) : FnG P w K mg base (k + 1) f 4 (spTerm K d) := by
  by_cases hd : 1 < d
  · have h_law_term := h_law_term hd
    refine F.ok sc__law_term (fun _ _ _ _ _ _ us hl => match us, hl with | [_, _, _, _], _ => rfl) (fun vs H Q h => ?_) (fun cdv A outer s H vs Q hr hG h => ?_)
    · obtain ⟨p, l, sy, vr, ss, m, rfl, _⟩ := h
      rfl
    · have nd := sc__law_term.nd
      obtain ⟨p, l, sy, vr, ss, m, rfl, hT, S, q⟩ := h
      refine ⟨_, ((pss_cons (ps_set (i := 4) nd rfl (Or.inl rfl) (pe_own h_law_draw hr hG (by rfl) (pa_cons (pv 0) (pa_cons (pe_op op_add (pe_callB call_len_seq (by rfl) Tx.len (by decide +kernel) (pa_cons (pv 1) pa_nil)) (pe_callB call_len_seq (by rfl) Tx.len (by decide +kernel) (pa_cons (pv 2) pa_nil))) pa_nil))))
  (pss_cons (ps_if (pt_cmpR op_lt (pv 4) (pe_callB call_len_seq (by rfl) Tx.len (by decide +kernel) (pa_cons (pv 2) pa_nil)) (nomark _))
    (pss_one (ps_ret (pe_ix ix_list (pv 2) (pv 4) (fun _ _ => rfl))))
    pss_nil)
  (pss_cons (ps_set (i := 5) nd rfl (Or.inl rfl) (pe_ix ix_list (pv 1) (pe_op op_sub (pv 4) (pe_callB call_len_seq (by rfl) Tx.len (by decide +kernel) (pa_cons (pv 2) pa_nil))) (fun _ _ => rfl)))
  (pss_cons (ps_if (pt_cmpR op_le (pv 3) pe_int (nomark _))
    (pss_one (ps_ret (pe_tup (pa_cons (pe_ix ix_tup (pv 5) pe_int (fun _ _ => rfl)) pa_nil))))
    pss_nil)
  (pss_one (ps_ret (pe_op op_catA (pe_tup (pa_cons (pe_ix ix_tup (pv 5) pe_int (fun _ _ => rfl)) pa_nil)) (pe_callTy call_tuple_of (by rfl) Tx.tuple (by decide +kernel) (pa_cons (pe_lc (own := [("_law_k", 6)]) (g := gName 6) (tt := tYes) rfl nd (pi_range1 (by rfl) Tx.range (pa_cons (pe_ix ix_tup (pv 5) pe_int (fun _ _ => rfl)) pa_nil)) (blkOk_by (own := [("_law_k", 6)]) (N := N_law_term) (sc := defScope s_law_term) (by decide +kernel)) (fun _ _ _ _ _ => pg_name (i := 6) nd rfl (Or.inl rfl)) (fun _ _ _ _ _ => pts_nil) (fun _ _ _ _ _ => (pe_own h_law_term hr hG (by rfl) (pa_cons (pv 0) (pa_cons (pv 1) (pa_cons (pv 2) (pa_cons (pe_op op_sub (pv 3) pe_int) pa_nil))))))) pa_nil)))))))))), ?_⟩
      have s1 := S.s1
      have s0 := S.s0
      have m3 := S.m3
      refine ⟨_, rfl, _, rfl, sy, ss, rfl, .inl (.inl (.inl S.s)), _, rfl, vr, _, rfl, .inl (.inl (.inl S.v)), _, _, rfl, rfl, ?_⟩
      rw [rangeV_len]
      refine ⟨p, l, _, rfl, hT, by omega, by omega, fun r H1 hr1 D1 => ?_⟩
      have S1 := S.dr hT D1
      refine ⟨_, rfl, _, rfl, vr, _, rfl, .inl (.inl (.inl S1.v)), _, _, rfl, rfl, _, rfl, ?_⟩
      rw [rangeV_len]
      by_cases hlt : (r : Int) < (m : Int)
      · rw [decide_eq_true hlt]
        refine iteT ?_
        refine ⟨_, rfl, _, rfl, vr, _, (r : Int), .int (r : Int), rfl, rfl, .inl (.inl S1.v), atI_nat (rangeV_get (by omega)), ?_⟩
        exact q _ (.v r) H1 D1 (TA.var r) (by simp [Fit]) (by simp only [Lo]; omega)
      · rw [decide_eq_false hlt]
        refine iteF ?_
        obtain ⟨x, hx⟩ : ∃ x, ss[r - m]? = some x := ⟨_, List.getElem?_eq_getElem (by omega)⟩
        obtain ⟨b, nm, ar, rfl, hb, hn, ha3⟩ := S1.sa x (List.mem_of_getElem? hx)
        refine ⟨_, rfl, _, rfl, _, rfl, vr, _, rfl, .inl (.inl (.inl S1.v)), _, _, rfl, rfl, sy, ss, _, _, rfl, rfl, .inl (.inl S1.s), atN (by rw [rangeV_len]; omega) hx, ?_⟩
        refine ⟨_, rfl, _, _, rfl, rfl, _, rfl, ?_⟩
        rw [decide_eq_false (show ¬ (d : Int) ≤ 1 by omega)]
        refine iteF ?_
        refine ⟨_, rfl, b, _, 0, .str nm, rfl, rfl, hb, at0, szl (show 1 ≤ 100000 by decide), fun c hc => ?_⟩
        have D2 := D1.new (o := .tup [.str nm]) hc
        have e2 : Ex H1 (upd H1 c (.tup [.str nm])) := Ex.new hc
        refine ⟨_, rfl, b, _, 1, .int ar, rfl, rfl, Evl.ex_t e2 hb, at1, (ar : Int), rfl, by omega, by omega, fun D hD => ?_⟩
        refine lc_dr (xs := rangeV (ar : Int).toNat) (K := K) D2.t (fun H' i y => ∃ t, TA K H' y t ∧ Fit t (d - 1) ∧ Lo t m) (fun H H' i y k ⟨t, h1, h2, h3⟩ => ⟨t, h1.up k, h2, h3⟩) ys_range (by rw [rangeV_len]; omega) (by intro _; rfl) ?_ hD ?_
        · intro i x H' Qk hxi D3 qk
          refine ⟨_, rfl, _, rfl, _, rfl, _, rfl, _, _, rfl, rfl, p, l, sy, vr, ss, m, by rw [show ((d - 1 : Nat) : Int) = (d : Int) - 1 by omega], D3.t, (S1.ex e2).dr D2.t D3, fun v t H'' D4 h1 h2 h3 => qk v H'' D4 ⟨t, h1, h2, h3⟩⟩
        · intro H' acc D3 hDa hl hR
          rw [rangeV_len, Int.toNat_natCast] at hl
          refine ⟨D, acc, rfl, .inl ⟨.inl (.inl hDa), fun r' hr' => ?_⟩⟩
          obtain ⟨ts, hts, hl2, hft⟩ : ∃ ts : List T, TsA K H' acc ts ∧ ts.length = acc.length ∧ ∀ t ∈ ts, Fit t (d - 1) ∧ Lo t m := by
            clear hDa hl
            induction acc with
            | nil => exact ⟨[], .nil, rfl, fun t h => by cases h⟩
            | cons y acc ih =>
              obtain ⟨t, h1, h2⟩ := hR 0 y rfl
              obtain ⟨ts, h3, h4, h5⟩ := ih fun i y' hy => hR (i + 1) y' (by simpa using hy)
              refine ⟨t :: ts, .cons h1 h3, by simp [h4], fun u hu => ?_⟩
              rcases List.mem_cons.mp hu with rfl | hu
              · exact h2
              · exact h5 u hu
          have e5 : Ex H' (upd H' r' (.tup acc)) := Ex.new hr'
          have k5 : Tk K (upd H1 c (.tup [.str nm])) (upd H' r' (.tup acc)) := (D3.tk D2.t).trans (Tk.ex e5)
          refine cat_cons (K := K) (k5 _ _ (.inl (.inl upd_same))) (.inl (.inl upd_same)) (by omega) fun z H2 e6 hz => ?_
          refine q _ (.a nm ts) H2 (((D2.trans D3).ex e5).ex e6) (TA.app hz (hts.up (Tk.ex (e5.trans e6)))) ?_ ?_
          · simp only [Fit]
            exact ⟨by omega, hn, by omega, fits_iff.mpr fun t ht => (hft t ht).1⟩
          · simp only [Lo]
            exact los_iff.mpr fun t ht => (hft t ht).2
  · obtain rfl : d = 1 := by omega
    refine F.ok sc__law_term (fun _ _ _ _ _ _ us hl => match us, hl with | [_, _, _, _], _ => rfl) (fun vs H Q h => ?_) (fun cdv A outer s H vs Q hr hG h => ?_)
    · obtain ⟨p, l, sy, vr, ss, m, rfl, _⟩ := h
      rfl
    · have nd := sc__law_term.nd
      obtain ⟨p, l, sy, vr, ss, m, rfl, hT, S, q⟩ := h
      refine ⟨_, ((pss_cons (ps_set (i := 4) nd rfl (Or.inl rfl) (pe_own h_law_draw hr hG (by rfl) (pa_cons (pv 0) (pa_cons (pe_op op_add (pe_callB call_len_seq (by rfl) Tx.len (by decide +kernel) (pa_cons (pv 1) pa_nil)) (pe_callB call_len_seq (by rfl) Tx.len (by decide +kernel) (pa_cons (pv 2) pa_nil))) pa_nil))))
  (pss_cons (ps_if (pt_cmpR op_lt (pv 4) (pe_callB call_len_seq (by rfl) Tx.len (by decide +kernel) (pa_cons (pv 2) pa_nil)) (nomark _))
    (pss_one (ps_ret (pe_ix ix_list (pv 2) (pv 4) (fun _ _ => rfl))))
    pss_nil)
  (pss_cons (ps_set (i := 5) nd rfl (Or.inl rfl) (pe_ix ix_list (pv 1) (pe_op op_sub (pv 4) (pe_callB call_len_seq (by rfl) Tx.len (by decide +kernel) (pa_cons (pv 2) pa_nil))) (fun _ _ => rfl)))
  (pss_cons (ps_if (pt_cmpR op_le (pv 3) pe_int (nomark _))
    (pss_one (ps_ret (pe_tup (pa_cons (pe_ix ix_tup (pv 5) pe_int (fun _ _ => rfl)) pa_nil))))
    pss_nil)
  pss_never))))), ?_⟩
      have s1 := S.s1
      have s0 := S.s0
      have m3 := S.m3
      refine ⟨_, rfl, _, rfl, sy, ss, rfl, .inl (.inl (.inl S.s)), _, rfl, vr, _, rfl, .inl (.inl (.inl S.v)), _, _, rfl, rfl, ?_⟩
      rw [rangeV_len]
      refine ⟨p, l, _, rfl, hT, by omega, by omega, fun r H1 hr1 D1 => ?_⟩
      have S1 := S.dr hT D1
      refine ⟨_, rfl, _, rfl, vr, _, rfl, .inl (.inl (.inl S1.v)), _, _, rfl, rfl, _, rfl, ?_⟩
      rw [rangeV_len]
      by_cases hlt : (r : Int) < (m : Int)
      · rw [decide_eq_true hlt]
        refine iteT ?_
        refine ⟨_, rfl, _, rfl, vr, _, (r : Int), .int (r : Int), rfl, rfl, .inl (.inl S1.v), atI_nat (rangeV_get (by omega)), ?_⟩
        exact q _ (.v r) H1 D1 (TA.var r) (by simp [Fit]) (by simp only [Lo]; omega)
      · rw [decide_eq_false hlt]
        refine iteF ?_
        obtain ⟨x, hx⟩ : ∃ x, ss[r - m]? = some x := ⟨_, List.getElem?_eq_getElem (by omega)⟩
        obtain ⟨b, nm, ar, rfl, hb, hn, ha3⟩ := S1.sa x (List.mem_of_getElem? hx)
        refine ⟨_, rfl, _, rfl, _, rfl, vr, _, rfl, .inl (.inl (.inl S1.v)), _, _, rfl, rfl, sy, ss, _, _, rfl, rfl, .inl (.inl S1.s), atN (by rw [rangeV_len]; omega) hx, ?_⟩
        refine ⟨_, rfl, _, _, rfl, rfl, _, rfl, ?_⟩
        refine iteT ?_
        refine ⟨_, rfl, b, _, 0, .str nm, rfl, rfl, hb, at0, szl (show 1 ≤ 100000 by decide), fun c hc => ?_⟩
        have e2 : Ex H1 (upd H1 c (.tup [.str nm])) := Ex.new hc
        refine q _ (.a nm []) _ (D1.new hc) (TA.app (.inl (.inl upd_same)) .nil) ?_ ?_
        · simp only [Fit]
          exact ⟨by omega, hn, by simp, trivial⟩
        · simp only [Lo]
          trivial
def spAtom (K : PySem.W.Frag) : Pr := fun vs H Q => ∃ (p l re sy vr : Addr) (rs ss : List V) (m d : Nat), vs = [.ref p, .ref re, .ref sy, .ref vr, .int d] ∧ Tape H p l ∧ Src K H p sy vr ss m ∧ H re = some (.lst rs) ∧ re ≠ p ∧ Syms K H rs ∧ 0 < rs.length ∧ rs.length ≤ 50 ∧ 1 ≤ d ∧ d ≤ 2 ∧
  ∀ v t H', Dr p l H H' → TA K H' v t → Fit t 3 → Lo t m → Q v H'
abbrev N_law_atom : List Str := ["_law_tape_here", "_law_relations_here", "_law_symbols_here", "_law_variables_here", "_law_depth", "_law_relation", "_law_k"]
theorem sc__law_atom : FnScope N_law_atom ["_law_tape_here", "_law_relations_here", "_law_symbols_here", "_law_variables_here", "_law_depth"] (defScope s_law_atom) := ⟨rfl, rfl, rfl, by decide +kernel, rfl, by decide +kernel, by decide +kernel⟩
theorem ok__law_atom (F : FnP K "_law_atom" s_law_atom f) (Tx : Top mg) (h_law_draw : Has P w K mg base k "_law_draw" 2 spDraw) (h_law_term1 : Has P w K mg base k "_law_term" 4 (spTerm K 1)) (h_law_term2 : Has P w K mg base k "_law_term" 4 (spTerm K 2)) : FnG P w K mg base (k + 1) f 5 (spAtom K) := by
  refine F.ok sc__law_atom (fun _ _ _ _ _ _ us hl => match us, hl with | [_, _, _, _, _], _ => rfl) (fun vs H Q h => ?_) (fun cdv A outer s H vs Q hr hG h => ?_)
  · obtain ⟨p, l, re, sy, vr, rs, ss, m, d, rfl, _⟩ := h
    rfl
  · have nd := sc__law_atom.nd
    obtain ⟨p, l, re, sy, vr, rs, ss, m, d, rfl, hT, S, hre, hrp, hrs, r0, r1, d1, d2, q⟩ := h
    have h_law_term : Has P w K mg base k "_law_term" 4 (spTerm K d) := by
      have : d = 1 ∨ d = 2 := by omega
      rcases this with rfl | rfl
      · exact h_law_term1
      · exact h_law_term2
    refine ⟨_, ((pss_cons (ps_set (i := 5) nd rfl (Or.inl rfl) (pe_ix ix_list (pv 1) (pe_own h_law_draw hr hG (by rfl) (pa_cons (pv 0) (pa_cons (pe_callB call_len_seq (by rfl) Tx.len (by decide +kernel) (pa_cons (pv 1) pa_nil)) pa_nil))) (fun _ _ => rfl)))
  (pss_one (ps_ret (pe_op op_catA (pe_tup (pa_cons (pe_ix ix_tup (pv 5) pe_int (fun _ _ => rfl)) pa_nil)) (pe_callTy call_tuple_of (by rfl) Tx.tuple (by decide +kernel) (pa_cons (pe_lc (own := [("_law_k", 6)]) (g := gName 6) (tt := tYes) rfl nd (pi_range1 (by rfl) Tx.range (pa_cons (pe_ix ix_tup (pv 5) pe_int (fun _ _ => rfl)) pa_nil)) (blkOk_by (own := [("_law_k", 6)]) (N := N_law_atom) (sc := defScope s_law_atom) (by decide +kernel)) (fun _ _ _ _ _ => pg_name (i := 6) nd rfl (Or.inl rfl)) (fun _ _ _ _ _ => pts_nil) (fun _ _ _ _ _ => (pe_own h_law_term hr hG (by rfl) (pa_cons (pv 0) (pa_cons (pv 2) (pa_cons (pv 3) (pa_cons (pv 4) pa_nil))))))) pa_nil))))))), ?_⟩
    refine ⟨_, rfl, _, rfl, _, rfl, re, rs, rfl, .inl (.inl (.inl hre)), p, l, _, rfl, hT, by omega, by omega, fun r H1 hr1 D1 => ?_⟩
    have S1 := S.dr hT D1
    obtain ⟨x, hx⟩ : ∃ x, rs[r]? = some x := ⟨_, List.getElem?_eq_getElem (by omega)⟩
    obtain ⟨b, nm, ar, rfl, hb, hn, ha3⟩ := (hrs.up (D1.tk hT)) x (List.mem_of_getElem? hx)
    refine ⟨re, rs, _, _, rfl, rfl, .inl (.inl (D1.keep hrp hre)), atI_nat hx, ?_⟩
    refine ⟨_, rfl, b, _, 0, .str nm, rfl, rfl, hb, at0, szl (show 1 ≤ 100000 by decide), fun c hc => ?_⟩
    have D2 := D1.new (o := .tup [.str nm]) hc
    have e2 : Ex H1 (upd H1 c (.tup [.str nm])) := Ex.new hc
    refine ⟨_, rfl, b, _, 1, .int ar, rfl, rfl, Evl.ex_t e2 hb, at1, (ar : Int), rfl, by omega, by omega, fun D hD => ?_⟩
    refine lc_dr (xs := rangeV (ar : Int).toNat) (K := K) D2.t (fun H' i y => ∃ t, TA K H' y t ∧ Fit t d ∧ Lo t m) (fun H H' i y k ⟨t, h1, h2, h3⟩ => ⟨t, h1.up k, h2, h3⟩) ys_range (by rw [rangeV_len]; omega) (by intro _; rfl) ?_ hD ?_
    · intro i x H' Qk hxi D3 qk
      refine ⟨_, rfl, _, rfl, _, rfl, _, rfl, p, l, sy, vr, ss, m, rfl, D3.t, (S1.ex e2).dr D2.t D3, fun v t H'' D4 h1 h2 h3 => qk v H'' D4 ⟨t, h1, h2, h3⟩⟩
    · intro H' acc D3 hDa hl hR
      rw [rangeV_len, Int.toNat_natCast] at hl
      refine ⟨D, acc, rfl, .inl ⟨.inl (.inl hDa), fun r' hr' => ?_⟩⟩
      obtain ⟨ts, hts, hl2, hft⟩ : ∃ ts : List T, TsA K H' acc ts ∧ ts.length = acc.length ∧ ∀ t ∈ ts, Fit t d ∧ Lo t m := by
        clear hDa hl
        induction acc with
        | nil => exact ⟨[], .nil, rfl, fun t h => by cases h⟩
        | cons y acc ih =>
          obtain ⟨t, h1, h2⟩ := hR 0 y rfl
          obtain ⟨ts, h3, h4, h5⟩ := ih fun i y' hy => hR (i + 1) y' (by simpa using hy)
          refine ⟨t :: ts, .cons h1 h3, by simp [h4], fun u hu => ?_⟩
          rcases List.mem_cons.mp hu with rfl | hu
          · exact h2
          · exact h5 u hu
      have e5 : Ex H' (upd H' r' (.tup acc)) := Ex.new hr'
      have k5 : Tk K (upd H1 c (.tup [.str nm])) (upd H' r' (.tup acc)) := (D3.tk D2.t).trans (Tk.ex e5)
      refine cat_cons (K := K) (k5 _ _ (.inl (.inl upd_same))) (.inl (.inl upd_same)) (by omega) fun z H2 e6 hz => ?_
      refine q _ (.a nm ts) H2 (((D2.trans D3).ex e5).ex e6) (TA.app hz (hts.up (Tk.ex (e5.trans e6)))) ?_ ?_
      · simp only [Fit]
        exact ⟨by omega, hn, by omega, fits_iff.mpr fun t ht => (hft t ht).1.up (by omega)⟩
      · simp only [Lo]
        exact los_iff.mpr fun t ht => (hft t ht).2

end
end Orl
set_option Elab.async false
set_option linter.all false
set_option maxRecDepth 100000
set_option maxHeartbeats 4000000
namespace Orl
open PySem PySem.Spec PyProof.Rows L2
section
variable {P : Program} {w : World} {K : PySem.W.Frag} {mg : Str → Option Value} {base : Heap} {k : Nat} {f : Addr}
/-! _law_universe -/
theorem un65 {k : Nat} {A : Around} (hr : Room k A) : A.units + 65 < cLine := by have := hr.un; omega
theorem un70 {k : Nat} {A : Around} (hr : Room k A) : A.units + 70 < cLine := by have := hr.un; omega
theorem Has.or {x : Str} {n : Nat} {sp sp' : Pr} (h : Has P w K mg base k x n sp) (h' : Has P w K mg base k x n sp') : Has P w K mg base k x n (fun vs H Q => sp vs H Q ∨ sp' vs H Q) := by
  obtain ⟨f, F, a, b⟩ := h.ex
  obtain ⟨f', F', a', b'⟩ := h'.ex
  rw [a] at a'
  obtain rfl : f = f' := by
    have := Option.some.inj a'
    injection this
  refine ⟨f, ⟨fun vs H Q q => q.elim (F.len _ _ _) (F'.len _ _ _), fun A outer s H us vs Q hr hG e0 hv q => ?_⟩, a, b⟩
  rcases q with q | q
  · exact F.run A outer s H us vs Q hr hG e0 hv q
  · exact F'.run A outer s H us vs Q hr hG e0 hv q
theorem dp_list {H : Hp} {a : Addr} {vs : List V} {ts : List T} (h : SqL K H a vs) (q : TsA K H vs ts) : Dp K H (.ref a) (.list (ts.map enc)) := by
  refine .lst h ?_
  rw [← encs_map]
  exact dpAll_iff.mpr q
theorem dp_tuple {H : Hp} {a : Addr} {vs : List V} {ts : List T} (h : SqT K H a vs) (q : TsA K H vs ts) : Dp K H (.ref a) (.tuple (ts.map enc)) := by
  refine .tup h ?_
  rw [← encs_map]
  exact dpAll_iff.mpr q
theorem lay_all {ts : List T} {d : Nat} (h : ∀ t ∈ ts, Fit t d) : PyData.canLayAll0 (ts.map enc) = true := by
  rw [← encs_map]
  exact encs_lay ts d (fits_iff.mpr h)
def spUniv (K : PySem.W.Frag) : Pr := fun vs H Q => ∃ (p l sy : Addr) (ss : List V) (n : Nat), vs = [.ref p, .ref sy, .int n] ∧ Tape H p l ∧ H sy = some (.lst ss) ∧ sy ≠ p ∧ Syms K H ss ∧ 0 < ss.length ∧ ss.length ≤ 50 ∧ 1 ≤ n ∧ n ≤ 3 ∧
  ∀ (L : Addr) vs ts H', Dr p l H H' → H L = none → H' L = some (.lst vs) → TsA K H' vs ts → 1 ≤ ts.length → ts.length ≤ 3 → (∀ t ∈ ts, Gr 3 t) → Q (.ref L) H'
abbrev N_law_universe : List Str := ["_law_tape_here", "_law_symbols_here", "_law_many", "_law_terms", "_law_k", "_law_symbol", "_law_term_here", "_law_j"]
theorem sc__law_universe : FnScope N_law_universe ["_law_tape_here", "_law_symbols_here", "_law_many"] (defScope s_law_universe) := ⟨rfl, rfl, rfl, by decide +kernel, rfl, by decide +kernel, by decide +kernel⟩
theorem ok__law_universe (F : FnP K "_law_universe" s_law_universe f) (Tx : Top mg) (h_law_draw : Has P w K mg base k "_law_draw" 2 spDraw) (h_law_size : Has P w K mg base k "_law_size" 1 (fun vs H Q => spSize K 1 vs H Q ∨ spSize K 4 vs H Q)) : FnG P w K mg base (k + 1) f 3 (spUniv K) := by
  refine F.ok sc__law_universe (fun _ _ _ _ _ _ us hl => match us, hl with | [_, _, _], _ => rfl) (fun vs H Q h => ?_) (fun cdv A outer s H vs Q hr hG h => ?_)
  · obtain ⟨p, l, sy, ss, n, rfl, _⟩ := h
    rfl
  · have nd := sc__law_universe.nd
    obtain ⟨p, l, sy, ss, n, rfl, hT, hsy, hsp, hss, s0, s1, n1, n3, q⟩ := h
    refine ⟨_, ((pss_cons (ps_set (i := 3) nd rfl (Or.inr rfl) (pe_lst pa_nil))
  (pss_cons (ps_for PassesOwn.never rfl (pi_range1 (by rfl) Tx.range (pa_cons (pv 2) pa_nil)) (pg_name (i := 4) nd rfl (Or.inl rfl))
    (pss_cons (ps_set (i := 5) nd rfl (Or.inl rfl) (pe_ix ix_list (pv 1) (pe_own h_law_draw hr hG (by rfl) (pa_cons (pv 0) (pa_cons (pe_callB call_len_seq (by rfl) Tx.len (by decide +kernel) (pa_cons (pv 1) pa_nil)) pa_nil))) (fun _ _ => rfl)))
  (pss_cons (ps_set (i := 6) nd rfl (Or.inl rfl) (pe_tup (pa_cons (pe_ix ix_tup (pv 5) pe_int (fun _ _ => rfl)) pa_nil)))
  (Evl.pss_cut (ps_if (pt_truth (pv 3) (by intro _; rfl))
    (pss_one (ps_set (i := 6) nd rfl (Or.inl rfl) (pe_op op_catA (pv 6) (pe_callTy call_tuple_of (by rfl) Tx.tuple (by decide +kernel) (pa_cons (pe_lc (own := [("_law_j", 7)]) (g := gName 7) (tt := tYes) rfl nd (pi_range1 (by rfl) Tx.range (pa_cons (pe_ix ix_tup (pv 5) pe_int (fun _ _ => rfl)) pa_nil)) (blkOk_by (own := [("_law_j", 7)]) (N := N_law_universe) (sc := defScope s_law_universe) (by decide +kernel)) (fun _ _ _ _ _ => pg_name (i := 7) nd rfl (Or.inl rfl)) (fun _ _ _ _ _ => pts_nil) (fun _ _ _ _ _ => (pe_ix (r := rIxL K) ix_list (pv 3) (pe_own h_law_draw hr hG (by rfl) (pa_cons (pv 0) (pa_cons (pe_callB (r := rLenS K) call_len_seq (by rfl) Tx.len (by decide +kernel) (pa_cons (pv 3) pa_nil)) pa_nil))) (fun _ _ => rfl)))) pa_nil)))))
    pss_nil)
  (pss_one (ps_if (PW.pt (pw_and (pt_cmpR (op_notInL (un65 hr)) (pv 6) (pv 3) (by rfl)) (pw_and1 (pt_cmpR op_le (pe_own h_law_size hr hG (by rfl) (pa_cons (pv 6) pa_nil)) pe_int (nomark _)))))
    (pss_one (ps_expr (pe_bm PySem.F.plainAttrs_list PySem.F.slot_list_append PySem.F.type_list_append mt_append (pv 3) (pa_cons (pv 6) pa_nil))))
    pss_nil))))))
  (pss_one (ps_ret (pv 3)))))), ?_⟩
    refine ⟨szl (Nat.zero_le _), fun L hL => ?_⟩
    have oL : Off L p l := hT.off hL
    refine ⟨_, rfl, n, rfl, by omega, by omega, ?_⟩
    refine for_range (lo := 0) (n := (n : Int).toNat) (fun i σ' H' => ∃ (us : List V) (ts : List T) (y4 y5 y6 : Option V), σ' = [some (.ref p), some (.ref sy), some (.int n), some (.ref L), y4, y5, y6, none] ∧ Dr p l H H' ∧ H' L = some (.lst us) ∧ TsA K H' us ts ∧ ts.length ≤ i ∧ (0 < i → 1 ≤ ts.length) ∧ ∀ t ∈ ts, Gr i t)
      ⟨[], [], none, none, none, rfl, (Dr.refl hT).new hL, upd_same, .nil, Nat.le_refl _, fun h => absurd h (Nat.lt_irrefl _), fun t h => by cases h⟩ ?_ ?_
    · rintro i σ' H' hi ⟨us, ts, y4, y5, y6, rfl, D, hu, hts, h1, h2, h3⟩
      have ul := Pa.len hts
      refine ⟨_, rfl, _, rfl, _, rfl, sy, ss, rfl, .inl (.inl (.inl (D.keep hsp hsy))), p, l, _, rfl, D.t, by omega, by omega, fun r H1 hr1 D1 => ?_⟩
      have D01 := D.trans D1
      have hu1 : H1 L = some (.lst us) := D1.keep oL.p hu
      have hts1 := hts.up (D1.tk D.t)
      obtain ⟨x, hx⟩ : ∃ x, ss[r]? = some x := ⟨_, List.getElem?_eq_getElem (by omega)⟩
      obtain ⟨b, nm, ar, rfl, hb, hn, ha3⟩ := (hss.up (D01.tk hT)) x (List.mem_of_getElem? hx)
      refine ⟨sy, ss, _, _, rfl, rfl, .inl (.inl (D01.keep hsp hsy)), atI_nat hx, ?_⟩
      refine ⟨_, rfl, b, _, 0, .str nm, rfl, rfl, hb, at0, szl (show 1 ≤ 100000 by decide), fun c hc => ?_⟩
      have D2 := D01.new (o := .tup [.str nm]) hc
      have e2 : Ex H1 (upd H1 c (.tup [.str nm])) := Ex.new hc
      have hu2 := e2 _ _ hu1
      have hts2 := hts1.up (Tk.ex e2)
      have hc2 : SqT K (upd H1 c (.tup [.str nm])) c [.str nm] := .inl (.inl upd_same)
      have g0 : ∀ d, 1 ≤ d → Gr d (.a nm []) := fun d hd => ⟨by simp only [Fit]; exact ⟨by omega, hn, by simp, trivial⟩, by simp only [Lo]; trivial⟩
      refine ⟨fun σ2 H2 => ∃ (z : Addr) (t : T), σ2 = [some (.ref p), some (.ref sy), some (.int n), some (.ref L), some (.int (0 + (i : Int))), some (.ref b), some (.ref z), none] ∧ Dr p l H H2 ∧ H2 L = some (.lst us) ∧ TsA K H2 us ts ∧ TA K H2 (.ref z) t ∧ Gr (i + 1) t ∧ (ts = [] → Gr 1 t), ?_, ?_⟩
      · refine ⟨_, rfl, !us.isEmpty, .inl ⟨us, .inl (.inl hu2), rfl⟩, ?_⟩
        by_cases he : us = []
        · subst he
          obtain rfl : ts = [] := List.length_eq_zero_iff.mp ul.symm
          exact ⟨c, .a nm [], rfl, D2, hu2, hts2, TA.app hc2 .nil, g0 _ (by omega), fun _ => g0 1 (Nat.le_refl _)⟩
        · have : (!us.isEmpty) = true := by
            cases us with
            | nil => exact absurd rfl he
            | cons _ _ => rfl
          rw [this]
          refine iteT ?_
          refine ⟨_, rfl, _, rfl, b, _, 1, .int ar, rfl, rfl, Evl.ex_t e2 hb, at1, (ar : Int), rfl, by omega, by omega, fun D' hD => ?_⟩
          have ul0 : 0 < us.length := List.length_pos_iff.mpr he
          refine lc_dr (xs := rangeV (ar : Int).toNat) (K := K) D2.t (fun H' i y => ∃ t, TA K H' y t ∧ t ∈ ts) (fun H H' i y k ⟨t, h1, h2⟩ => ⟨t, h1.up k, h2⟩) ys_range (by rw [rangeV_len]; omega) (by intro _; rfl) ?_ hD ?_
          · intro i' x H' Qk hxi D3 qk
            have hu3 := D3.keep oL.p hu2
            refine ⟨_, rfl, _, rfl, _, rfl, L, us, rfl, .inl (.inl (.inl hu3)), p, l, _, rfl, D3.t, by omega, by omega, fun r3 H4 hr3 D4 => ?_⟩
            obtain ⟨y, hy⟩ : ∃ y, us[r3]? = some y := ⟨_, List.getElem?_eq_getElem (by omega)⟩
            obtain ⟨t, ht, hyt⟩ := Pa.get' hts2 hy
            refine ⟨L, us, _, y, rfl, rfl, .inl (.inl (D4.keep oL.p hu3)), atI_nat hy, qk y H4 D4 ⟨t, hyt.up ((D3.tk D2.t).trans (D4.tk D3.t)), List.mem_of_getElem? ht⟩⟩
          · intro H' acc D3 hDa hl hR
            rw [rangeV_len, Int.toNat_natCast] at hl
            refine ⟨D', acc, rfl, .inl ⟨.inl (.inl hDa), fun r' hr' => ?_⟩⟩
            obtain ⟨as, has, hl2, hft⟩ : ∃ as : List T, TsA K H' acc as ∧ as.length = acc.length ∧ ∀ t ∈ as, t ∈ ts := by
              clear hDa hl
              induction acc with
              | nil => exact ⟨[], .nil, rfl, fun t h => by cases h⟩
              | cons y acc ih =>
                obtain ⟨t, h1, h2⟩ := hR 0 y rfl
                obtain ⟨as, h3, h4, h5⟩ := ih fun i y' hy => hR (i + 1) y' (by simpa using hy)
                refine ⟨t :: as, .cons h1 h3, by simp [h4], fun u hu => ?_⟩
                rcases List.mem_cons.mp hu with rfl | hu
                · exact h2
                · exact h5 u hu
            have e5 : Ex H' (upd H' r' (.tup acc)) := Ex.new hr'
            have k5 : Tk K (upd H1 c (.tup [.str nm])) (upd H' r' (.tup acc)) := (D3.tk D2.t).trans (Tk.ex e5)
            refine cat_cons (K := K) (k5 _ _ hc2) (.inl (.inl upd_same)) (by omega) fun z H2 e6 hz => ?_
            have D26 := ((D2.trans D3).ex e5).ex e6
            refine ⟨z, .a nm as, rfl, D26, (e5.trans e6) _ _ (D3.keep oL.p hu2), hts2.up (k5.trans (Tk.ex e6)), TA.app hz (has.up (Tk.ex (e5.trans e6))), ⟨?_, ?_⟩, fun z => ?_⟩
            · simp only [Fit]
              exact ⟨by omega, hn, by omega, fits_iff.mpr fun t ht => (h3 t (hft t ht)).1⟩
            · simp only [Lo]
              exact los_iff.mpr fun t ht => (h3 t (hft t ht)).2
            · subst z
              exact absurd (show us = [] from List.length_eq_zero_iff.mp ul) he
      · rintro σ2 H2 ⟨z, t, rfl, D3, hu3, hts3, hz, hg, hg1⟩
        have hfit : ∀ u ∈ ts, Fit u 3 := fun u hu => (h3 u hu).1.up (by omega)
        refine ⟨_, rfl, _, rfl, enc t, ts.map enc, hz, dp_list (.inl (.inl hu3)) hts3, enc_shaped hg.1 (by omega), lay_all hfit, ?_⟩
        rw [any_eqv]
        have skip : ∀ H2, Dr p l H H2 → H2 L = some (.lst us) → TsA K H2 us ts → 1 ≤ ts.length → ∃ (us' : List V) (ts' : List T) (y4' y5' y6' : Option V), ([some (V.ref p), some (.ref sy), some (.int n), some (.ref L), some (.int (0 + (i : Int))), some (.ref b), some (.ref z), none] : L2.St) = [some (.ref p), some (.ref sy), some (.int n), some (.ref L), y4', y5', y6', none] ∧ Dr p l H H2 ∧ H2 L = some (.lst us') ∧ TsA K H2 us' ts' ∧ ts'.length ≤ i + 1 ∧ (0 < i + 1 → 1 ≤ ts'.length) ∧ ∀ t ∈ ts', Gr (i + 1) t :=
          fun H2 D hu hts h => ⟨us, ts, _, _, _, rfl, D, hu, hts, by omega, fun _ => h, fun u hu => ⟨(h3 u hu).1.up (by omega), (h3 u hu).2⟩⟩
        have app : ∀ H2, Dr p l H H2 → H2 L = some (.lst us) → TsA K H2 us ts → TA K H2 (.ref z) t → ∃ (us' : List V) (ts' : List T) (y4' y5' y6' : Option V), ([some (V.ref p), some (.ref sy), some (.int n), some (.ref L), some (.int (0 + (i : Int))), some (.ref b), some (.ref z), none] : L2.St) = [some (.ref p), some (.ref sy), some (.int n), some (.ref L), y4', y5', y6', none] ∧ Dr p l H (upd H2 L (.lst (us ++ [.ref z]))) ∧ (upd H2 L (.lst (us ++ [.ref z]))) L = some (.lst us') ∧ TsA K (upd H2 L (.lst (us ++ [.ref z]))) us' ts' ∧ ts'.length ≤ i + 1 ∧ (0 < i + 1 → 1 ≤ ts'.length) ∧ ∀ t ∈ ts', Gr (i + 1) t := by
          intro H2 D hu hts hz
          have k6 : Tk K H2 (upd H2 L (.lst (us ++ [.ref z]))) := Tk.xb hu rfl Xb.upd
          refine ⟨us ++ [.ref z], ts ++ [t], _, _, _, rfl, D.mut hL oL, upd_same, Pa.snoc (hts.up k6) (hz.up k6), by simp; omega, fun _ => by simp, fun u hu => ?_⟩
          rcases List.mem_append.mp hu with hu | hu
          · exact ⟨(h3 u hu).1.up (by omega), (h3 u hu).2⟩
          · have : u = t := by simpa using hu
            rw [this]
            exact hg
        by_cases hm : t ∈ ts
        · rw [decide_eq_true hm]
          refine ⟨_, rfl, iteF ?_⟩
          exact skip H2 D3 hu3 hts3 (by cases ts with | nil => cases hm | cons _ _ => simp)
        · rw [decide_eq_false hm]
          refine ⟨_, rfl, iteT ?_⟩
          by_cases he : ts = []
          · refine ⟨_, rfl, .inl ⟨.ref z, t, rfl, hz, (hg1 he).1, fun m H4 e4 hm4 => ?_⟩⟩
            refine ⟨_, _, rfl, rfl, _, rfl, ?_⟩
            rw [decide_eq_true (show (m : Int) ≤ 12 by omega)]
            refine iteT ?_
            refine ⟨_, rfl, .inl ⟨rfl, _, .inl (.inl (e4 _ _ hu3))⟩, ?_⟩
            refine ⟨_, rfl, L, us, _, rfl, rfl, e4 _ _ hu3, szs (by omega), ?_⟩
            exact app H4 (D3.ex e4) (e4 _ _ hu3) (hts3.up (Tk.ex e4)) (hz.up (Tk.ex e4))
          · have tl : 1 ≤ ts.length := List.length_pos_iff.mpr he
            refine ⟨_, rfl, .inr ⟨.ref z, t, rfl, hz, hg.1.up (by omega), fun m H4 e4 hm4 => ?_⟩⟩
            refine ⟨_, _, rfl, rfl, _, rfl, ?_⟩
            by_cases h12 : (m : Int) ≤ 12
            · rw [decide_eq_true h12]
              refine iteT ?_
              refine ⟨_, rfl, .inl ⟨rfl, _, .inl (.inl (e4 _ _ hu3))⟩, ?_⟩
              refine ⟨_, rfl, L, us, _, rfl, rfl, e4 _ _ hu3, szs (by omega), ?_⟩
              exact app H4 (D3.ex e4) (e4 _ _ hu3) (hts3.up (Tk.ex e4)) (hz.up (Tk.ex e4))
            · rw [decide_eq_false h12]
              refine iteF ?_
              exact skip H4 (D3.ex e4) (e4 _ _ hu3) (hts3.up (Tk.ex e4)) tl
    · rintro σ' H' ⟨us, ts, y4, y5, y6, rfl, D, hu, hts, h1, h2, h3⟩
      rw [Int.toNat_natCast] at h1 h2 h3
      exact ⟨_, rfl, q L us ts H' D hL hu hts (h2 (by omega)) (by omega) fun t ht => ⟨(h3 t ht).1.up (by omega), (h3 t ht).2⟩⟩

end
end Orl
set_option Elab.async false
set_option linter.all false
set_option maxRecDepth 100000
set_option maxHeartbeats 4000000
namespace Orl
open PySem PySem.Spec PyProof.Rows L2
section
variable {P : Program} {w : World} {K : PySem.W.Frag} {mg : Str → Option Value} {base : Heap} {k : Nat} {f : Addr}
/-! _law_rule_over, _law_rule, _law_rules -/
theorem rangeV_succ (n : Nat) : rangeV (n + 1) = rangeV n ++ [.int (n : Int)] := by
  unfold rangeV
  rw [List.range_succ, List.map_append]
  rfl
theorem few_lt : ∀ (m : Nat) (us : List Nat), us.Nodup → (∀ u ∈ us, u < m) → us.length ≤ m
  | 0, us, _, h => by
    cases us with
    | nil => exact Nat.le_refl _
    | cons u us => exact absurd (h u (List.mem_cons_self ..)) (Nat.not_lt_zero _)
  | m + 1, us, nd, h => by
    by_cases hm : m ∈ us
    · have h2 : (us.erase m).length ≤ m := few_lt m _ (nd.erase m) fun u hu => by
        have h3 := (List.Nodup.mem_erase_iff nd).mp hu
        have := h u h3.2
        have := h3.1
        omega
      rw [List.length_erase_of_mem hm] at h2
      omega
    · have := few_lt m us nd fun u hu => by
        have := h u hu
        have : u ≠ m := fun z => hm (z ▸ hu)
        omega
      omega
theorem numb_fits {ts : List T} {d : Nat} (h : Fits ts d) : Fits (numb ts) d := by
  unfold numb
  rw [subs_map]
  refine fits_iff.mpr fun t ht => ?_
  obtain ⟨u, hu, rfl⟩ := List.mem_map.mp ht
  exact fit_sub (e := 0) u (fits_iff.mp h u hu) (fun _ _ => by simp [ren, Fit]) d (by omega)
theorem numb_len (ts : List T) : (numb ts).length = ts.length := by unfold numb; rw [subs_map, List.length_map]
/-- numbered atoms make a good rule -/
theorem good_numb {t : T} {ts : List T} {m : Nat} (hf : Fits (t :: ts) 3) (hl : Los (t :: ts) m) (hm : m ≤ 3) (hn : ts.length ≤ 3) : ∃ r : Rl, numb (t :: ts) = r.con :: r.prem ∧ Good r := by
  refine ⟨numbR ⟨ts, t⟩, numbR_eq ⟨ts, t⟩, ?_⟩
  have e := numbR_eq ⟨ts, t⟩
  simp only at e
  constructor
  · rw [← e, numb_numb]
  · rw [← e, vars_numb, List.length_range]
    refine Nat.le_trans (few_lt m _ (nodup_vars _) fun u hu => ?_) hm
    exact los_occ _ |>.mp hl u (mem_vars.mp hu)
  · rw [← e]
    exact numb_fits hf
  · have := numb_len (t :: ts)
    rw [e] at this
    simp at this
    omega
def spRule (K : PySem.W.Frag) (b : Bool) : Pr := fun vs H Q => ∃ (p l re sy : Addr) (nm : Str) (rs ss : List V) (m n : Nat), vs = (if b = true then [.ref p, .str nm, .ref re, .ref re, .ref sy, .int m, .int n] else [.ref p, .str nm, .ref re, .ref sy, .int m, .int n]) ∧ Tape H p l ∧
  H sy = some (.lst ss) ∧ sy ≠ p ∧ Syms K H ss ∧ 0 < ss.length ∧ ss.length ≤ 50 ∧ H re = some (.lst rs) ∧ re ≠ p ∧ Syms K H rs ∧ 0 < rs.length ∧ rs.length ≤ 50 ∧ m ≤ 3 ∧ n ≤ 3 ∧ ∀ v r H', Dr p l H H' → RlA K H' v r → Good r → Q v H'
abbrev N_law_rule_over : List Str := ["_law_tape_here", "_law_name", "_law_heads", "_law_bodies", "_law_symbols_here", "_law_many", "_law_premises", "_law_k", "_law_variables_here", "_law_atoms"]
theorem sc__law_rule_over : FnScope N_law_rule_over ["_law_tape_here", "_law_name", "_law_heads", "_law_bodies", "_law_symbols_here", "_law_many", "_law_premises"] (defScope s_law_rule_over) := ⟨rfl, rfl, rfl, by decide +kernel, rfl, by decide +kernel, by decide +kernel⟩
theorem ok__law_rule_over (F : FnP K "_law_rule_over" s_law_rule_over f) (Tx : Top mg) (h_law_draw : Has P w K mg base k "_law_draw" 2 spDraw) (h_law_term : Has P w K mg base k "_law_term" 4 (spTerm K 2)) (h_law_atom : Has P w K mg base k "_law_atom" 5 (spAtom K)) (h_law_numbered : Has P w K mg base k "_law_numbered" 1 (spNumL K)) : FnG P w K mg base (k + 1) f 7 (spRule K true) := by
  refine F.ok sc__law_rule_over (fun _ _ _ _ _ _ us hl => match us, hl with | [_, _, _, _, _, _, _], _ => rfl) (fun vs H Q h => ?_) (fun cdv A outer s H vs Q hr hG h => ?_)
  · obtain ⟨p, l, re, sy, nm, rs, ss, m, n, rfl, _⟩ := h
    rfl
  · have nd := sc__law_rule_over.nd
    obtain ⟨p, l, re, sy, nm, rs, ss, m, n, rfl, hT, hsy, hsp, hss, s0, s1, hre, hrp, hrs, r0, r1, m3, n3, q⟩ := h
    simp only [if_true]
    refine ⟨_, ((pss_cons (ps_setLc (i := 8) (own := [("_law_k", 7)]) (g := gName 7) (tt := tYes) rfl nd rfl rfl (sw_true rfl rfl rfl (by decide +kernel)) (pi_range1 (by rfl) Tx.range (pa_cons (pv 5) pa_nil)) (blkOk_by (own := [("_law_k", 7)]) (N := N_law_rule_over) (sc := defScope s_law_rule_over) (by decide +kernel)) (fun _ _ _ _ _ => pg_name (i := 7) nd rfl (Or.inl rfl)) (fun _ _ _ _ _ => pts_nil) (fun _ _ _ _ _ => (pv 7)))
  (pss_cons (ps_set (i := 9) nd rfl (Or.inl rfl) (pe_lst (pa_cons (pe_own h_law_atom hr hG (by rfl) (pa_cons (pv 0) (pa_cons (pv 2) (pa_cons (pv 4) (pa_cons (pv 8) (pa_cons pe_int pa_nil)))))) pa_nil)))
  (pss_cons (ps_for PassesOwn.never rfl (pi_range1 (by rfl) Tx.range (pa_cons (pv 6) pa_nil)) (pg_name (i := 7) nd rfl (Or.inl rfl))
    (pss_one (ps_if (pt_cmpR op_eq (pe_own h_law_draw hr hG (by rfl) (pa_cons (pv 0) (pa_cons pe_int pa_nil))) pe_int (nomark _))
    (pss_one (ps_expr (pe_bm PySem.F.plainAttrs_list PySem.F.slot_list_append PySem.F.type_list_append mt_append (pv 9) (pa_cons (pe_tup (pa_cons pe_str (pa_cons (pe_own h_law_term hr hG (by rfl) (pa_cons (pv 0) (pa_cons (pv 4) (pa_cons (pv 8) (pa_cons pe_int pa_nil))))) (pa_cons (pe_own h_law_term hr hG (by rfl) (pa_cons (pv 0) (pa_cons (pv 4) (pa_cons (pv 8) (pa_cons pe_int pa_nil))))) pa_nil)))) pa_nil))))
    (pss_one (ps_expr (pe_bm PySem.F.plainAttrs_list PySem.F.slot_list_append PySem.F.type_list_append mt_append (pv 9) (pa_cons (pe_own h_law_atom hr hG (by rfl) (pa_cons (pv 0) (pa_cons (pv 3) (pa_cons (pv 4) (pa_cons (pv 8) (pa_cons (pe_op op_add pe_int (pe_own h_law_draw hr hG (by rfl) (pa_cons (pv 0) (pa_cons pe_int pa_nil)))) pa_nil)))))) pa_nil)))))))
  (pss_cons (ps_set (i := 9) nd rfl (Or.inl rfl) (pe_own h_law_numbered hr hG (by rfl) (pa_cons (pv 9) pa_nil)))
  (pss_one (ps_ret (pe_tup (pa_cons (pv 1) (pa_cons (pe_callTy call_tuple_of (by rfl) Tx.tuple (by decide +kernel) (pa_cons (pe_slice sl_list (pv 9) (po_some pe_int) po_none) pa_nil)) (pa_cons (pe_ix ix_list (pv 9) pe_int (fun _ _ => rfl)) pa_nil))))))))))), ?_⟩
    refine ⟨_, rfl, (m : Int), rfl, by omega, by omega, fun V0 hV => ?_⟩
    have oV : Off V0 p l := hT.off hV
    refine lc_gen (xs := rangeV (m : Int).toNat) (Ex H) (fun H' acc => acc = rangeV acc.length) ys_range (by rw [rangeV_len]; omega) (by intro _; rfl) ⟨Ex.new hV, rfl⟩ ?_ ?_
    · intro i x H' acc Qk hx e hD hl hR qk
      have hi : i < (m : Int).toNat := by
        have := (List.getElem?_eq_some_iff.mp hx).1
        rw [rangeV_len] at this
        exact this
      rw [rangeV_get hi] at hx
      have hx := Option.some.inj hx
      subst hx
      refine ⟨_, rfl, qk _ H' hD (e.mutN hV) ?_⟩
      rw [List.length_append, hl]
      show acc ++ _ = rangeV (i + 1)
      rw [rangeV_succ, ← hl, ← hR]
    · intro H1 acc e1 hV1 hl hR
      rw [rangeV_len, Int.toNat_natCast] at hl
      rw [hl] at hR
      subst hR
      have D1 : Dr p l H H1 := (Dr.refl hT).ex e1
      have S1 : Src K H1 p sy V0 ss m := ⟨e1 _ _ hsy, hsp, hss.up (Tk.ex e1), s0, s1, hV1, oV.p, m3⟩
      refine ⟨_, rfl, _, rfl, _, rfl, _, rfl, p, l, re, sy, V0, rs, ss, m, 2, rfl, D1.t, S1, e1 _ _ hre, hrp, hrs.up (Tk.ex e1), r0, r1, by decide, by decide, fun v t H2 D2 hv hf hlo => ?_⟩
      refine ⟨szl (show 1 ≤ 100000 by decide), fun L hL => ?_⟩
      have D12 := D1.trans D2
      have S2 := S1.dr D1.t D2
      have hLH : H L = none := D12.fresh hL
      have oL : Off L p l := hT.off hLH
      have nLs : L ≠ sy := (ne_new hsy hLH).symm
      have nLv : L ≠ V0 := (ne_new S2.v hL).symm
      refine ⟨_, rfl, n, rfl, by omega, by omega, ?_⟩
      refine for_range (lo := 0) (n := (n : Int).toNat) (fun i σ' H' => ∃ (y7 : Option V) (vs : List V) (ts : List T), σ' = [some (.ref p), some (.str nm), some (.ref re), some (.ref re), some (.ref sy), some (.int m), some (.int n), y7, some (.ref V0), some (.ref L)] ∧ Dr p l H H' ∧ Src K H' p sy V0 ss m ∧ H' L = some (.lst vs) ∧ TsA K H' vs ts ∧ ts.length = i + 1 ∧ Fits ts 3 ∧ Los ts m)
        ⟨none, [v], [t], rfl, D12.new hL, S2.ex (Ex.new hL), upd_same, .cons (hv.up (Tk.upd hL)) .nil, rfl, ⟨hf, trivial⟩, ⟨hlo, trivial⟩⟩ ?_ ?_
      · rintro i σ' H' hi ⟨y7, vs, ts, rfl, D, S, hLs, hts, hlen, hfs, hls⟩
        have vl := Pa.len hts
        have app : ∀ H2 v t, Dr p l H' H2 → TA K H2 v t → Fit t 3 → Lo t m → ∃ (y7' : Option V) (vs' : List V) (ts' : List T), ([some (V.ref p), some (.str nm), some (.ref re), some (.ref re), some (.ref sy), some (.int m), some (.int n), some (.int (0 + (i : Int))), some (.ref V0), some (.ref L)] : L2.St) = [some (.ref p), some (.str nm), some (.ref re), some (.ref re), some (.ref sy), some (.int m), some (.int n), y7', some (.ref V0), some (.ref L)] ∧ Dr p l H (upd H2 L (.lst (vs ++ [v]))) ∧ Src K (upd H2 L (.lst (vs ++ [v]))) p sy V0 ss m ∧ (upd H2 L (.lst (vs ++ [v]))) L = some (.lst vs') ∧ TsA K (upd H2 L (.lst (vs ++ [v]))) vs' ts' ∧ ts'.length = i + 1 + 1 ∧ Fits ts' 3 ∧ Los ts' m := by
          intro H2 v t D2 hv hf hlo
          have hL2 := D2.keep oL.p hLs
          have k6 : Tk K H2 (upd H2 L (.lst (vs ++ [v]))) := Tk.xb hL2 rfl Xb.upd
          have S2 := S.dr D.t D2
          refine ⟨_, vs ++ [v], ts ++ [t], rfl, (D.trans D2).mut hLH oL, ⟨by rw [upd_ne nLs.symm]; exact S2.s, S2.sp, S2.sa.up k6, s0, s1, by rw [upd_ne nLv.symm]; exact S2.v, S2.vp, m3⟩, upd_same, Pa.snoc ((hts.up (D2.tk D.t)).up k6) (hv.up k6), by simp [hlen], fits_iff.mpr fun u hu => ?_, los_iff.mpr fun u hu => ?_⟩
          · rcases List.mem_append.mp hu with hu | hu
            · exact fits_iff.mp hfs u hu
            · have : u = t := by simpa using hu
              rw [this]
              exact hf
          · rcases List.mem_append.mp hu with hu | hu
            · exact los_iff.mp hls u hu
            · have : u = t := by simpa using hu
              rw [this]
              exact hlo
        refine ⟨_, rfl, p, l, _, rfl, D.t, by decide, by decide, fun r H1 hr1 D1 => ?_⟩
        have hL1 := D1.keep oL.p hLs
        have S1 := S.dr D.t D1
        refine ⟨rfl, _, rfl, ?_⟩
        refine ite2 (fun _ => ?_) fun _ => ?_
        · refine ⟨_, rfl, .inl ⟨rfl, _, .inl (.inl hL1)⟩, ?_⟩
          refine ⟨_, rfl, _, rfl, _, rfl, p, l, sy, V0, ss, m, rfl, D1.t, S1, fun v1 t1 H2 D2 hv1 hf1 hl1 => ?_⟩
          refine ⟨_, rfl, _, rfl, _, rfl, p, l, sy, V0, ss, m, rfl, D2.t, S1.dr D1.t D2, fun v2 t2 H3 D3 hv2 hf2 hl2 => ?_⟩
          refine ⟨szl (show 3 ≤ 100000 by decide), fun c hc => ?_⟩
          have D4 := ((D1.trans D2).trans D3).new (o := .tup [.str "=", v1, v2]) hc
          refine ⟨L, vs, _, rfl, rfl, D4.keep oL.p hLs, szs (by omega), ?_⟩
          refine app _ _ (.a "=" [t1, t2]) D4 (TA.app (.inl (.inl upd_same)) (.cons ((hv1.up (D3.tk D2.t)).up (Tk.upd hc)) (.cons (hv2.up (Tk.upd hc)) .nil))) ?_ ?_
          · simp only [Fit, Fits]
            exact ⟨by decide, ⟨by decide +kernel, by decide +kernel⟩, (show 2 ≤ 3 by decide), hf1, hf2, trivial⟩
          · simp only [Lo, Los]
            exact ⟨hl1, hl2, trivial⟩
        · refine ⟨_, rfl, .inl ⟨rfl, _, .inl (.inl hL1)⟩, ?_⟩
          refine ⟨_, rfl, _, rfl, _, rfl, _, rfl, _, rfl, p, l, _, rfl, D1.t, by decide, by decide, fun r2 H2 hr2 D2 => ?_⟩
          have D12' := D1.trans D2
          have D02 := D.trans D12'
          refine ⟨_, _, rfl, rfl, p, l, re, sy, V0, rs, ss, m, 1 + r2, rfl, D2.t, S1.dr D1.t D2, D02.keep hrp hre, hrp, hrs.up (D02.tk hT), r0, r1, by omega, by omega, fun v t H3 D3 hv hf hlo => ?_⟩
          have D3' := D12'.trans D3
          refine ⟨L, vs, _, rfl, rfl, D3'.keep oL.p hLs, szs (by omega), ?_⟩
          exact app _ _ t D3' hv hf hlo
      · rintro σ' H' ⟨y7, vs, ts, rfl, D, S, hLs, hts, hlen, hfs, hls⟩
        rw [Int.toNat_natCast] at hlen
        obtain ⟨t0, tr, rfl⟩ : ∃ t0 tr, ts = t0 :: tr := by
          cases ts with
          | nil => simp at hlen
          | cons t0 tr => exact ⟨t0, tr, rfl⟩
        have tl : tr.length = n := by simpa using hlen
        refine ⟨_, rfl, L, vs, t0 :: tr, rfl, .inl (.inl hLs), hts, hfs, by simp; omega, fun a ys H3 e3 ha hys => ?_⟩
        obtain ⟨r, er, gr⟩ := good_numb hfs hls m3 (by omega)
        rw [er] at hys
        cases hys with
        | cons hc hps =>
          rename_i c' ps'
          have D3 := D.ex e3
          refine ⟨_, rfl, ?_⟩
          refine ⟨_, rfl, 1, rfl, ?_⟩
          refine ⟨a, _, rfl, .inl (.inl ha), fun b hb => ?_⟩
          rw [cut1]
          have e4 : Ex H3 (upd H3 b (.lst ps')) := Ex.new hb
          refine ⟨b, ps', rfl, .inl ⟨.inl (.inl upd_same), fun b2 hb2 => ?_⟩⟩
          have e5 : Ex (upd H3 b (.lst ps')) (upd (upd H3 b (.lst ps')) b2 (.tup ps')) := Ex.new hb2
          refine ⟨_, rfl, a, _, 0, c', rfl, rfl, .inl (.inl ((e4.trans e5) _ _ ha)), at0, szl (show 3 ≤ 100000 by decide), fun z hz => ?_⟩
          have e6 : Ex (upd (upd H3 b (.lst ps')) b2 (.tup ps')) (upd (upd (upd H3 b (.lst ps')) b2 (.tup ps')) z (.tup [.str nm, .ref b2, c'])) := Ex.new hz
          have k : Tk K H3 (upd (upd (upd H3 b (.lst ps')) b2 (.tup ps')) z (.tup [.str nm, .ref b2, c'])) := Tk.ex ((e4.trans e5).trans e6)
          exact q _ r _ (D3.ex ((e4.trans e5).trans e6)) ⟨z, b2, nm, c', ps', rfl, .inl (.inl upd_same), Evl.ex_t e6 (.inl (.inl upd_same)), TsA.up hps k, TA.up hc k⟩ gr
abbrev N_law_rule : List Str := ["_law_tape_here", "_law_name", "_law_relations_here", "_law_symbols_here", "_law_many", "_law_premises"]
theorem sc__law_rule : FnScope N_law_rule ["_law_tape_here", "_law_name", "_law_relations_here", "_law_symbols_here", "_law_many", "_law_premises"] (defScope s_law_rule) := ⟨rfl, rfl, rfl, by decide +kernel, rfl, by decide +kernel, by decide +kernel⟩
theorem ok__law_rule (F : FnP K "_law_rule" s_law_rule f) (Tx : Top mg) (h_law_rule_over : Has P w K mg base k "_law_rule_over" 7 (spRule K true)) : FnG P w K mg base (k + 1) f 6 (spRule K false) := by
  refine F.ok sc__law_rule (fun _ _ _ _ _ _ us hl => match us, hl with | [_, _, _, _, _, _], _ => rfl) (fun vs H Q h => ?_) (fun cdv A outer s H vs Q hr hG h => ?_)
  · obtain ⟨p, l, re, sy, nm, rs, ss, m, n, rfl, _⟩ := h
    rfl
  · have nd := sc__law_rule.nd
    obtain ⟨p, l, re, sy, nm, rs, ss, m, n, rfl, h⟩ := h
    refine ⟨_, ((pss_one (ps_ret (pe_own h_law_rule_over hr hG (by rfl) (pa_cons (pv 0) (pa_cons (pv 1) (pa_cons (pv 2) (pa_cons (pv 2) (pa_cons (pv 3) (pa_cons (pv 4) (pa_cons (pv 5) pa_nil))))))))))), ?_⟩
    exact ⟨_, rfl, _, rfl, _, rfl, _, rfl, _, rfl, _, rfl, _, rfl, p, l, re, sy, nm, rs, ss, m, n, rfl, h⟩
def spRules (K : PySem.W.Frag) : Pr := fun vs H Q => ∃ (p l re sy : Addr) (rs ss : List V) (n : Nat), vs = [.ref p, .ref re, .ref sy, .int n] ∧ Tape H p l ∧
  H sy = some (.lst ss) ∧ sy ≠ p ∧ Syms K H ss ∧ 0 < ss.length ∧ ss.length ≤ 50 ∧ H re = some (.lst rs) ∧ re ≠ p ∧ Syms K H rs ∧ 0 < rs.length ∧ rs.length ≤ 50 ∧ n ≤ 10 ∧
  ∀ (L : Addr) (vs : List V) (rr : List Rl) (H' : Hp), Dr p l H H' → H L = none → H' L = some (.lst vs) → RlsA K H' vs rr → rr.length = n → (∀ r ∈ rr, Good r) → Q (.ref L) H'
abbrev N_law_rules : List Str := ["_law_tape_here", "_law_relations_here", "_law_symbols_here", "_law_many", "_law_names_here", "_law_rules_here", "_law_k", "_law_premises"]
theorem sc__law_rules : FnScope N_law_rules ["_law_tape_here", "_law_relations_here", "_law_symbols_here", "_law_many"] (defScope s_law_rules) := ⟨rfl, rfl, rfl, by decide +kernel, rfl, by decide +kernel, by decide +kernel⟩
theorem ok__law_rules (F : FnP K "_law_rules" s_law_rules f) (Tx : Top mg) (h_law_draw : Has P w K mg base k "_law_draw" 2 spDraw) (h_law_names : Has P w K mg base k "_law_names" 2 spNames) (h_law_rule : Has P w K mg base k "_law_rule" 6 (spRule K false)) : FnG P w K mg base (k + 1) f 4 (spRules K) := by
  refine F.ok sc__law_rules (fun _ _ _ _ _ _ us hl => match us, hl with | [_, _, _, _], _ => rfl) (fun vs H Q h => ?_) (fun cdv A outer s H vs Q hr hG h => ?_)
  · obtain ⟨p, l, re, sy, rs, ss, n, rfl, _⟩ := h
    rfl
  · have nd := sc__law_rules.nd
    obtain ⟨p, l, re, sy, rs, ss, n, rfl, hT, hsy, hsp, hss, s0, s1, hre, hrp, hrs, r0, r1, n10, q⟩ := h
    refine ⟨_, ((pss_cons (ps_set (i := 4) nd rfl (Or.inl rfl) (pe_own h_law_names hr hG (by rfl) (pa_cons (pv 0) (pa_cons (pv 3) pa_nil))))
  (pss_cons (ps_set (i := 5) nd rfl (Or.inl rfl) (pe_lst pa_nil))
  (pss_cons (ps_for PassesOwn.never rfl (pi_range1 (by rfl) Tx.range (pa_cons (pv 3) pa_nil)) (pg_name (i := 6) nd rfl (Or.inl rfl))
    (pss_cons (ps_set (i := 7) nd rfl (Or.inl rfl) (pe_ix ix_list (pe_lst (pa_cons pe_int (pa_cons pe_int (pa_cons pe_int (pa_cons pe_int (pa_cons pe_int (pa_cons pe_int pa_nil))))))) (pe_own h_law_draw hr hG (by rfl) (pa_cons (pv 0) (pa_cons pe_int pa_nil))) (fun _ _ => rfl)))
  (Evl.pss_cut (ps_if (pt_cmpR op_eq (pv 6) pe_int (nomark _))
    (pss_one (ps_set (i := 7) nd rfl (Or.inl rfl) pe_int))
    pss_nil)
  (pss_one (ps_expr (pe_bm PySem.F.plainAttrs_list PySem.F.slot_list_append PySem.F.type_list_append mt_append (pv 5) (pa_cons (pe_own h_law_rule hr hG (by rfl) (pa_cons (pv 0) (pa_cons (pe_ix ix_list (pv 4) (pv 6) (fun _ _ => rfl)) (pa_cons (pv 1) (pa_cons (pv 2) (pa_cons (pe_op op_add pe_int (pe_own h_law_draw hr hG (by rfl) (pa_cons (pv 0) (pa_cons pe_int pa_nil)))) (pa_cons (pv 7) pa_nil))))))) pa_nil)))))))
  (pss_one (ps_ret (pv 5))))))), ?_⟩
    refine ⟨_, rfl, _, rfl, p, l, n, rfl, hT, by omega, fun N ns H1 D1 hN hN1 nl => ?_⟩
    have oN : Off N p l := hT.off hN
    refine ⟨szl (Nat.zero_le _), fun L hL => ?_⟩
    have hL0 : H L = none := D1.fresh hL
    have oL : Off L p l := hT.off hL0
    have nLN : L ≠ N := (ne_new hN1 hL).symm
    have nLs : L ≠ sy := (ne_new hsy hL0).symm
    have nLr : L ≠ re := (ne_new hre hL0).symm
    have e1 : Ex H1 (upd H1 L (.lst [])) := Ex.new hL
    refine ⟨_, rfl, n, rfl, by omega, by omega, ?_⟩
    refine for_range (lo := 0) (n := (n : Int).toNat) (fun i σ' H' => ∃ (y6 y7 : Option V) (vs : List V) (rr : List Rl), σ' = [some (.ref p), some (.ref re), some (.ref sy), some (.int n), some (.ref N), some (.ref L), y6, y7] ∧ Dr p l H H' ∧ H' N = some (.lst (ns.map V.str)) ∧ H' L = some (.lst vs) ∧ RlsA K H' vs rr ∧ rr.length = i ∧ ∀ r ∈ rr, Good r)
      ⟨none, none, [], [], rfl, D1.new hL, e1 _ _ hN1, upd_same, .nil, rfl, fun r h => by cases h⟩ ?_ ?_
    · rintro i σ' H' hi ⟨y6, y7, vs, rr, rfl, D, hNs, hLs, hrr, hlen, hgood⟩
      have vl := Pa.len hrr
      refine ⟨szl (show 6 ≤ 100000 by decide), fun c hc => ?_⟩
      have D2 := (Dr.refl D.t).new (o := .lst [.int 0, .int 1, .int 2, .int 1, .int 2, .int 3]) hc
      refine ⟨_, rfl, p, l, _, rfl, D2.t, by decide, by decide, fun r H3 hr3 D3 => ?_⟩
      have hc3 : H3 c = some (.lst [.int 0, .int 1, .int 2, .int 1, .int 2, .int 3]) := D3.keep (D.t.off hc).p upd_same
      obtain ⟨ar, har, e⟩ := six (.inr (.inr rfl)) hr3
      have D23 := D2.trans D3
      refine ⟨c, _, r, .int ar, rfl, rfl, .inl (.inl hc3), e, ?_⟩
      refine ⟨fun σ2 H2 => H2 = H3 ∧ ∃ m : Nat, m ≤ 3 ∧ σ2 = [some (.ref p), some (.ref re), some (.ref sy), some (.int n), some (.ref N), some (.ref L), some (.int (0 + (i : Int))), some (.int m)], ?_, ?_⟩
      · refine ⟨_, rfl, rfl, _, rfl, ?_⟩
        refine ite2 (fun _ => ?_) fun _ => ?_
        · exact ⟨rfl, 0, by decide, rfl⟩
        · exact ⟨rfl, ar, har, rfl⟩
      · rintro σ2 H2 ⟨rfl, m, m3, rfl⟩
        have hL3 := D23.keep oL.p hLs
        have e0 : (0 : Int) + (i : Int) = (i : Int) := by omega
        obtain ⟨nm, hnm⟩ : ∃ nm, ns[i]? = some nm := ⟨_, List.getElem?_eq_getElem (by omega)⟩
        refine ⟨_, rfl, .inl ⟨rfl, _, .inl (.inl hL3)⟩, ?_⟩
        refine ⟨_, rfl, _, rfl, _, rfl, N, _, _, .str nm, rfl, rfl, .inl (.inl (D23.keep oN.p hNs)), atN e0 (by rw [List.getElem?_map, hnm]; rfl), ?_⟩
        refine ⟨_, rfl, _, rfl, _, rfl, p, l, _, rfl, D3.t, by decide, by decide, fun r4 H4 hr4 D4 => ?_⟩
        have D24 := D23.trans D4
        have D04 := D.trans D24
        refine ⟨_, _, rfl, rfl, _, rfl, p, l, re, sy, nm, rs, ss, 1 + r4, m, rfl, D4.t, D04.keep hsp hsy, hsp, hss.up (D04.tk hT), s0, s1, D04.keep hrp hre, hrp, hrs.up (D04.tk hT), r0, r1, by omega, m3, fun v r' H5 D5 hv hg => ?_⟩
        have D25 := D24.trans D5
        have hL5 := D25.keep oL.p hLs
        refine ⟨L, vs, _, rfl, rfl, hL5, szs (by omega), ?_⟩
        have k6 : Tk K H5 (upd H5 L (.lst (vs ++ [v]))) := Tk.xb hL5 rfl Xb.upd
        refine ⟨_, _, vs ++ [v], rr ++ [r'], rfl, (D.trans D25).mut hL0 oL, by rw [upd_ne nLN.symm]; exact D25.keep oN.p hNs, upd_same, Pa.snoc (RlsA.up hrr ((D25.tk D.t).trans k6)) (hv.up k6), by simp [hlen], fun u hu => ?_⟩
        rcases List.mem_append.mp hu with hu | hu
        · exact hgood u hu
        · have : u = r' := by simpa using hu
          rw [this]
          exact hg
    · rintro σ' H' ⟨y6, y7, vs, rr, rfl, D, hNs, hLs, hrr, hlen, hgood⟩
      rw [Int.toNat_natCast] at hlen
      exact ⟨_, rfl, q L vs rr H' D hL0 hLs hrr hlen hgood⟩

end
end Orl
set_option Elab.async false
set_option linter.all false
set_option maxRecDepth 100000
set_option maxHeartbeats 4000000
namespace Orl
open PySem PySem.Spec PyProof.Rows L2
section
variable {P : Program} {w : World} {K : PySem.W.Frag} {mg : Str → Option Value} {base : Heap} {k : Nat} {f : Addr}
/-! with_refl: the one lambda, the table of its code objects -/
abbrev lamQ : Str := (envOfC "with_refl" (defScope s_with_refl) 0 0 .none).qual ++ "<lambda>"
abbrev TbT (P : Addr) : List (Addr × Str) := [(P, lamQ)]
theorem FnP.okC {N ps : List Str} {sp : Pr} {x : Str} {st : Stmt} {c : Addr} (F : FnP K x st f) (hc : ∀ oc od fd osl, K.lookup f = some ⟨oc, od, .func fd, osl⟩ → fd.code = .ref c) (S : FnScope N ps (defScope st))
    (hb : ∀ (kV doc pm : Value) (an : Option Addr) (cdv ct : Value) (us : List Value), us.length = ps.length → bindArgs (PySem.W.fnOf x x (defArgs st) (defBody st) (defScope st) .none kV doc pm an cdv ct) ⟨us, []⟩ = pure (ps.zip us))
    (len : ∀ vs H Q, sp vs H Q → vs.length = ps.length)
    (go : ∀ (A : Around) (outer : List Env) (s : Shared) (H : Hp) (vs : List V) (Q : VK), Room k (A.deeper (envOfC x (defScope st) s.heap.objs.size f (.ref c))) → (A.deeper (envOfC x (defScope st) s.heap.objs.size f (.ref c))).guards = some [] → sp vs H Q →
      ∃ t, PSs (cxOf CX0 P w K mg base N x (defScope st) f (.ref c) A outer s H E0).nox (defBody st) t ∧ t { nx := fun _ H' => Q .non H', rt := Q } (start N vs) H) : FnG P w K mg base (k + 1) f ps.length sp := by
  obtain ⟨fd, F⟩ := F
  obtain ⟨oc, od, dV, kV, doc, pm, an, cdv, ct, osl, rfl, lk, hcd, hD, _⟩ := F.ex
  have e : dV = .none := by
    rcases hD with ⟨_, e⟩ | ⟨e, _⟩
    · exact e
    · exact absurd rfl e
  subst e
  have e2 : cdv = .ref c := hc _ _ _ _ lk
  subst e2
  exact fnG_of lk hcd S (hb kV doc pm an _ ct) len go
theorem tabs_ex {P : Addr} {H H' : Hp} (t : LamX.Tabs (TbT P) H) (e : Ex H H') : LamX.Tabs (TbT P) H' := t.ext e
theorem tabs_xb {P p : Addr} {H H' : Hp} {xs : List V} (t : LamX.Tabs (TbT P) H) (hp : H p = some (.lst xs)) (e : Xb p H H') : LamX.Tabs (TbT P) H' := fun q hq => by
  obtain ⟨ps, h1, h2, h3⟩ := t q hq
  have no : ∀ b o, H b = some o → (∀ xs, o ≠ .lst xs) → H' b = some o := fun b o h n => e b o (by rintro rfl; rw [hp] at h; exact n xs (Option.some.inj h).symm) h
  refine ⟨ps, no _ _ h1 (fun xs z => by cases z), h2, fun pos cv hc => ?_⟩
  obtain ⟨c, e1, e2⟩ := h3 pos cv hc
  exact ⟨c, e1, no _ _ e2 (fun xs z => by cases z)⟩
theorem extN_ex {H H' : Hp} (e : Ex H H') : LamX.ExtN H H' := .of e
theorem begins {H : Hp} : ∀ {vs : List V} {rs : List Rl}, RlsA K H vs rs → ∃ nms, Paired (Begins K H) vs nms
  | _, _, .nil => ⟨[], .nil⟩
  | _, _, .cons h t => by
    obtain ⟨nms, h2⟩ := begins t
    obtain ⟨a, pa, nm, c, ps, e, h1, _⟩ := h
    exact ⟨nm :: nms, .cons ⟨a, _, e, h1⟩ h2⟩
def spRefl (K : PySem.W.Frag) (P : Addr) : Pr := fun vs H Q => ∃ (a : Addr) (xs : List V) (rs : List Rl), vs = [.ref a] ∧ SqT K H a xs ∧ RlsA K H xs rs ∧ rs.length ≤ 20 ∧ LamX.Tabs (TbT P) H ∧
  ∀ p ws rs' H', LamX.ExtN H H' → LamX.Tabs (TbT P) H' → H' p = some (.lst ws) → RlsA K H' ws rs' → (rs ++ [rfl']).Perm rs' → Q (.ref p) H'
abbrev Nwith_refl : List Str := ["rules"]
theorem sc_with_refl : FnScope Nwith_refl ["rules"] (defScope s_with_refl) := ⟨rfl, rfl, rfl, by decide +kernel, rfl, by decide +kernel, by decide +kernel⟩
theorem ok_with_refl {c R TP : Addr} (F : FnP K "with_refl" s_with_refl f) (Tx : Top mg) (hc : ∀ oc od fd osl, K.lookup f = some ⟨oc, od, .func fd, osl⟩ → fd.code = .ref c) (TB : LamX.TabB base mg c TP) (g_REFL : mg "REFL" = some (.ref R)) (isR : ∀ H, RlA K H (.ref R) rfl') : FnG P w K mg base (k + 1) f 1 (spRefl K TP) := by
  refine F.okC hc sc_with_refl (fun _ _ _ _ _ _ us hl => match us, hl with | [_], _ => rfl) (fun vs H Q h => ?_) (fun A outer s H vs Q hr hG h => ?_)
  · obtain ⟨a, xs, rs, rfl, _⟩ := h
    rfl
  · have nd := sc_with_refl.nd
    obtain ⟨a, xs, rs, rfl, ha, hx, hn, hT, q⟩ := h
    refine ⟨_, ((pss_one (ps_ret (pe_sortLam hr TB rfl (List.mem_singleton.mpr rfl) (fun p hp _ => by rw [List.mem_singleton.mp hp]) (pa_cons (pe_op op_cat (pe_callTy call_list_of (by rfl) Tx.list (by decide +kernel) (pa_cons (pv 0) pa_nil)) (pe_lst (pa_cons (pe_glob (v := .ref R) (by rfl) g_REFL rfl) pa_nil))) pa_nil) (by rfl) Tx.sorted (by rfl) (by decide +kernel) (by rfl) (by decide) (by rfl) (by rfl) (by rfl) (fun _ _ _ _ _ _ => rfl))))), ?_⟩
    have hlen := Pa.len hx
    refine ⟨_, rfl, a, xs, rfl, .inr ha, fun l hl => ⟨szl (show 1 ≤ 100000 by decide), fun b hb => ?_⟩⟩
    have e1 : Ex H (upd H l (.lst xs)) := Ex.new hl
    have e2 : Ex (upd H l (.lst xs)) (upd (upd H l (.lst xs)) b (.lst [.ref R])) := Ex.new hb
    refine ⟨l, b, xs, [.ref R], rfl, rfl, e2 _ _ upd_same, upd_same, szl (by simp; omega), fun p hp => ?_⟩
    have e3 := (e1.trans e2).trans (Ex.new (o := .lst (xs ++ [.ref R])) hp)
    have hrs : RlsA K (upd (upd (upd H l (.lst xs)) b (.lst [.ref R])) p (.lst (xs ++ [.ref R]))) (xs ++ [.ref R]) (rs ++ [rfl']) := Pa.snoc (RlsA.up hx (Tk.ex e3)) (isR _)
    obtain ⟨nms, hB⟩ := begins hrs
    refine ⟨p, _, nms, rfl, .inl (.inl upd_same), tabs_ex hT e3, hB, fun ws H2 r hperm hE hT2 hr2 => ?_⟩
    obtain ⟨rs', hp2, hrs2⟩ := Pa.perm hperm.symm hrs
    refine q r ws rs' _ ((extN_ex e3).trans (hE.trans (extN_ex (Ex.new hr2)))) (tabs_ex hT2 (Ex.new hr2)) upd_same (RlsA.up hrs2 ((Tk.extN hE).trans (Tk.upd hr2))) hp2

end
end Orl
set_option Elab.async false
set_option linter.all false
set_option maxRecDepth 100000
set_option maxHeartbeats 4000000
namespace Orl
open PySem PySem.Spec PyProof.Rows L2
section
variable {P : Program} {w : World} {K : PySem.W.Frag} {mg : Str → Option Value} {base : Heap} {k : Nat} {f : Addr}
/-! instances in the heap -/
def InstA (K : PySem.W.Frag) (q : Addr) (H : Hp) (v : V) (i : Inst) : Prop := ∃ (r : Addr) (nm rw fv : V) (tl : Addr), v = .ref r ∧ SqT K H r [nm, rw, fv, .str (key i.2), .ref tl] ∧ TA K H fv i.2 ∧ H tl = some (.lst (i.1.map fun t => V.str (key t))) ∧ tl ≠ q
/-- lists stay, but the one at q -/
def Ls (q : Addr) (H H' : Hp) : Prop := ∀ b xs, b ≠ q → H b = some (.lst xs) → H' b = some (.lst xs)
theorem Ls.xb {q : Addr} {H H' : Hp} (e : Xb q H H') : Ls q H H' := fun b _ n h => e b _ n h
theorem Ls.ex {q : Addr} {H H' : Hp} (e : Ex H H') : Ls q H H' := fun b _ _ h => e b _ h
theorem Ls.dct {q c : Addr} {H H' : Hp} {kvs : List (Key × V)} (hc : H c = some (.dK kvs)) (e : Xb c H H') : Ls q H H' := fun b xs _ h => e b _ (by rintro rfl; rw [hc] at h; cases h) h
theorem Ls.trans {q : Addr} {H H1 H2 : Hp} (a : Ls q H H1) (b : Ls q H1 H2) : Ls q H H2 := fun c xs n h => b c xs n (a c xs n h)
theorem InstA.up {q : Addr} {H H' : Hp} {v : V} {i : Inst} (h : InstA K q H v i) (k : Tk K H H') (l : Ls q H H') : InstA K q H' v i := by
  obtain ⟨r, nm, rw, fv, tl, e, h1, h2, h3, h4⟩ := h
  exact ⟨r, nm, rw, fv, tl, e, k _ _ h1, h2.up k, l _ _ h4 h3, h4⟩
abbrev InstsA (K : PySem.W.Frag) (q : Addr) (H : Hp) (vs : List V) (is : List Inst) : Prop := Paired (InstA K q H) vs is
theorem InstsA.up {q : Addr} {H H' : Hp} {vs : List V} {is : List Inst} (h : InstsA K q H vs is) (k : Tk K H H') (l : Ls q H H') : InstsA K q H' vs is := Pa.imp h fun _ _ z => InstA.up z k l
def rInst (ts : List T) (r : Rl) : List Inst := (rows (vc r) ts).map (inst r)
def allI (rs : List Rl) (ts : List T) : List Inst := rs.flatMap (rInst ts)
theorem allI_snoc {rs : List Rl} {ts : List T} {i : Nat} {r : Rl} (h : rs[i]? = some r) : allI (rs.take (i + 1)) ts = allI (rs.take i) ts ++ rInst ts r := by
  unfold allI
  rw [take_snoc h, List.flatMap_append]
  simp
theorem rInst_snoc {ts : List T} {r : Rl} {j : Nat} {row : List T} (h : (rows (vc r) ts)[j]? = some row) : ((rows (vc r) ts).take (j + 1)).map (inst r) = ((rows (vc r) ts).take j).map (inst r) ++ [inst r row] := by
  rw [take_snoc h, List.map_append]
  rfl
theorem mem_allI {rs : List Rl} {ts : List T} {i : Inst} : i ∈ allI rs ts ↔ IsI rs ts i := by
  unfold allI rInst IsI
  rw [List.mem_flatMap]
  constructor
  · rintro ⟨r, hr, h⟩
    obtain ⟨row, hrow, rfl⟩ := List.mem_map.mp h
    obtain ⟨h1, h2⟩ := mem_rows.mp hrow
    exact ⟨r, hr, row, h1, h2, rfl⟩
  · rintro ⟨r, hr, row, h1, h2, rfl⟩
    exact ⟨r, hr, List.mem_map.mpr ⟨row, mem_rows.mpr ⟨h1, h2⟩, rfl⟩⟩
theorem rInst_len {ts : List T} {r : Rl} (ht : ts.length ≤ 4) (hr : vc r ≤ 3) : (rInst ts r).length ≤ 64 := by
  unfold rInst
  rw [List.length_map, len_rows]
  have : ts.length ^ vc r ≤ 4 ^ vc r := Nat.pow_le_pow_left ht _
  have : 4 ^ vc r ≤ 4 ^ 3 := Nat.pow_le_pow_right (by decide) hr
  have : 4 ^ 3 = 64 := by decide
  omega
theorem allI_len {ts : List T} (ht : ts.length ≤ 4) : ∀ {rs : List Rl}, (∀ r ∈ rs, vc r ≤ 3) → (allI rs ts).length ≤ rs.length * 64
  | [], _ => by simp [allI]
  | r :: rs, h => by
    have h1 := rInst_len ht (h r (List.mem_cons_self ..))
    have h2 := allI_len ht (rs := rs) fun r hr => h r (List.mem_cons_of_mem _ hr)
    unfold allI at h2 ⊢
    rw [List.flatMap_cons, List.length_append, List.length_cons, Nat.succ_mul]
    omega
theorem rp {t : T} (hg : Gr 8 t) : (enc t).showable = true ∧ (enc t).hasDict = false ∧ (enc t).depth ≤ 64 ∧ (enc t).shown.length ≤ sizeLine := by
  obtain ⟨h1, h2⟩ := enc_show t hg.2
  refine ⟨h1, h2, Nat.le_trans (enc_depth t 8 hg.1) (by decide), ?_⟩
  have e : (PyData.shown (enc t)).length = (txt t).length := by
    rw [← shown_txt t 8 hg.1 hg.2]
    show (PyData.shown (enc t)).cps.size = _
    simp
  have l := txt_len t 8 hg.1
  have c : 100 * 4 ^ 8 = 6553600 := by decide
  rw [e, line]
  omega
theorem map_of {g : T → V} : ∀ {acc : List V} {ts : List T}, acc.length = ts.length → (∀ (i : Nat) (y : V) (t : T), acc[i]? = some y → ts[i]? = some t → y = g t) → acc = ts.map g
  | [], [], _, _ => rfl
  | [], _ :: _, h, _ => by cases h
  | _ :: _, [], h, _ => by cases h
  | y :: acc, t :: ts, h, f => by
    rw [List.map_cons, ← f 0 y t rfl rfl, ← map_of (acc := acc) (ts := ts) (by simpa using h) fun i y' t' h1 h2 => f (i + 1) y' t' (by simpa using h1) (by simpa using h2)]
theorem Good.row {r : Rl} (g : Good r) {ts row : List T} {d : Nat} (ht : ∀ t ∈ ts, Gr d t) (hrow : row ∈ rows (vc r) ts) : row.length = vc r ∧ (∀ t ∈ row, Gr d t) ∧ Gr (3 + d) (sub (at' row) r.con) ∧ ∀ p ∈ r.prem, Gr (3 + d) (sub (at' row) p) ∧ Lo p row.length ∧ Fit p 3 := by
  obtain ⟨h1, h2⟩ := mem_rows.mp hrow
  have lo := g.lo
  have fit := g.fit
  simp only [Los, Fits] at lo fit
  have hg : ∀ t ∈ row, Gr d t := fun t h => ht t (h2 t h)
  refine ⟨h1, hg, sub_ground h1 hg fit.1 lo.1, fun p hp => ?_⟩
  have l1 := los_iff.mp lo.2 p hp
  have f1 := fits_iff.mp fit.2 p hp
  exact ⟨sub_ground h1 hg f1 l1, by rw [h1]; exact l1, f1⟩

end
end Orl
set_option Elab.async false
set_option linter.all false
set_option maxRecDepth 100000
set_option maxHeartbeats 4000000
namespace Orl
open PySem PySem.Spec PyProof.Rows L2
section
variable {P : Program} {w : World} {K : PySem.W.Frag} {mg : Str → Option Value} {base : Heap} {k : Nat} {f : Addr}
/-! ground_instances -/
/-- what the calls are given: rules, terms -/
structure Inp (K : PySem.W.Frag) (H : Hp) (P : Addr) (d : Nat) (xs : List V) (rs : List Rl) (us : List V) (ts : List T) : Prop where
  r : RlsA K H xs rs
  t : TsA K H us ts
  good : ∀ r ∈ rs, Good r
  gr : ∀ t ∈ ts, Gr d t
  r5 : rs.length ≤ 5
  t4 : ts.length ≤ 4
  d4 : d ≤ 4
  tab : LamX.Tabs (TbT P) H
def spGround (K : PySem.W.Frag) (P : Addr) : Pr := fun vs H Q => ∃ (ra ta : Addr) (d : Nat) (xs : List V) (rs : List Rl) (us : List V) (ts : List T), vs = [.ref ra, .ref ta] ∧ SqT K H ra xs ∧ SqT K H ta us ∧ Inp K H P d xs rs us ts ∧
  ∀ p ws rs' H', LamX.ExtN H H' → LamX.Tabs (TbT P) H' → H' p = some (.lst ws) → InstsA K p H' ws (allI rs' ts) → (rs ++ [rfl']).Perm rs' → Q (.ref p) H'
abbrev Nground_instances : List Str := ["rules", "terms", "known", "found", "name", "premises", "conclusion", "row", "fact", "texts", "rule", "premise"]
theorem sc_ground_instances : FnScope Nground_instances ["rules", "terms"] (defScope s_ground_instances) := ⟨rfl, rfl, rfl, by decide +kernel, rfl, by decide +kernel, by decide +kernel⟩
theorem ok_ground_instances {TP : Addr} {tk : Tok} (F : FnP K "ground_instances" s_ground_instances f) (Tx : Top mg) (g_MOST : mg "MOST_CHOICES" = some (.int 600 tk)) (h_with_refl : Has P w K mg base k "with_refl" 1 (spRefl K TP)) (h_power : Has P w K mg base k "power" 2 spPower)
    (h_variable_count : Has P w K mg base k "variable_count" 1 (spVc K)) (h_choices : Has P w K mg base k "choices" 2 (spChoi K true)) (h_instance_of : Has P w K mg base k "instance_of" 2 (spInst K 3)) : FnG P w K mg base (k + 1) f 2 (spGround K TP) := by
  refine F.ok sc_ground_instances (fun _ _ _ _ _ _ us hl => match us, hl with | [_, _], _ => rfl) (fun vs H Q h => ?_) (fun cdv A outer s H vs Q hr hG h => ?_)
  · obtain ⟨ra, ta, d, xs, rs, us, ts, rfl, _⟩ := h
    rfl
  · have nd := sc_ground_instances.nd
    obtain ⟨ra, ta, d, xs, rs, us, ts, rfl, hra, hta, I, q⟩ := h
    have ul := Pa.len I.t
    have t4 := I.t4
    have d4 := I.d4
    have r5 := I.r5
    refine ⟨_, ((pss_cons (ps_set (i := 2) nd rfl (Or.inl rfl) (pe_own h_with_refl hr hG (by rfl) (pa_cons (pv 0) pa_nil)))
  (pss_cons (ps_if (pt_cmpR op_gt (pe_callB (cr_sum rfl) (by rfl) Tx.sum (by decide +kernel) (pa_cons (pe_lc (own := [("rule", 10)]) (g := gName 10) (tt := tYes) rfl nd (pi_list (pv 2)) (blkOk_by (own := [("rule", 10)]) (N := Nground_instances) (sc := defScope s_ground_instances) (by decide +kernel)) (fun _ _ _ _ _ => pg_name (i := 10) nd rfl (Or.inl rfl)) (fun _ _ _ _ _ => pts_nil) (fun _ _ _ _ _ => (pe_own h_power hr hG (by rfl) (pa_cons (pe_callB (r := rLenS K) call_len_seq (by rfl) Tx.len (by decide +kernel) (pa_cons (pv 1) pa_nil)) (pa_cons (pe_own h_variable_count hr hG (by rfl) (pa_cons (pv 10) pa_nil)) pa_nil))))) pa_nil)) (pe_glob (v := .int 600) (by rfl) g_MOST ⟨_, rfl⟩) (nomark _))
    (pss_one ps_never)
    pss_nil)
  (pss_cons (ps_set (i := 3) nd rfl (Or.inl rfl) (pe_lst pa_nil))
  (pss_cons (ps_for PassesOwn.never rfl (pi_list (pv 2)) (pg_tup rfl (pgs_cons (pg_name (i := 4) nd rfl (Or.inl rfl)) (pgs_cons (pg_name (i := 5) nd rfl (Or.inl rfl)) (pgs_cons (pg_name (i := 6) nd rfl (Or.inl rfl)) pgs_nil))))
    (pss_one (ps_for PassesOwn.never rfl (pi_list (pe_own h_choices hr hG (by rfl) (pa_cons (pe_own h_variable_count hr hG (by rfl) (pa_cons (pe_tup (pa_cons (pv 4) (pa_cons (pv 5) (pa_cons (pv 6) pa_nil)))) pa_nil)) (pa_cons (pv 1) pa_nil)))) (pg_name (i := 7) nd rfl (Or.inr rfl))
    (pss_cons (ps_set (i := 8) nd rfl (Or.inl rfl) (pe_own h_instance_of hr hG (by rfl) (pa_cons (pv 6) (pa_cons (pv 7) pa_nil))))
  (pss_cons (ps_setLc (i := 9) (own := [("premise", 11)]) (g := gName 11) (tt := tYes) rfl nd rfl rfl (sw_true rfl rfl rfl (by decide +kernel)) (pi_tup (pv 5)) (blkOk_by (own := [("premise", 11)]) (N := Nground_instances) (sc := defScope s_ground_instances) (by decide +kernel)) (fun _ _ _ _ _ => pg_name (i := 11) nd rfl (Or.inl rfl)) (fun _ _ _ _ _ => pts_nil) (fun _ _ _ _ _ => (pe_callB (r := rRepr K) (call_repr hG (un70 hr)) (by rfl) Tx.repr (by decide +kernel) (pa_cons (pe_own h_instance_of hr hG (by rfl) (pa_cons (pv 11) (pa_cons (pv 7) pa_nil))) pa_nil))))
  (pss_one (ps_expr (pe_bm PySem.F.plainAttrs_list PySem.F.slot_list_append PySem.F.type_list_append mt_append (pv 3) (pa_cons (pe_tup (pa_cons (pv 4) (pa_cons (pv 7) (pa_cons (pv 8) (pa_cons (pe_callB (call_repr hG (un70 hr)) (by rfl) Tx.repr (by decide +kernel) (pa_cons (pv 8) pa_nil)) (pa_cons (pv 9) pa_nil)))))) pa_nil)))))))))
  (pss_one (ps_ret (pv 3)))))))), ?_⟩
    refine ⟨_, rfl, ra, xs, rs, rfl, hra, I.r, by omega, I.tab, fun p ws rs' H1 e1 T1 hp hrs' perm => ?_⟩
    have good : ∀ r ∈ rs', Good r := fun r hr => by
      have := perm.mem_iff.mpr hr
      rcases List.mem_append.mp this with h | h
      · exact I.good r h
      · rw [List.mem_singleton.mp h]
        exact Good.rfl'
    have rl : rs'.length = rs.length + 1 := by rw [← perm.length_eq]; simp
    have wl := Pa.len hrs'
    have hta1 : SqT K H1 ta us := extN_t e1 hta
    have I1 := I.t.up (Tk.extN e1)
    refine ⟨_, rfl, p, rfl, ⟨ws, .inl (.inl hp)⟩, fun D hD => ?_⟩
    refine lc_ex (K := K) (xs := ws) (fun _ i y => ∃ n : Nat, n ≤ 64 ∧ y = .int (n : Int)) (fun H H' i y k h => h) (ys_list fun H' e => .inl (.inl (e _ _ hp))) (by omega) (by intro _; rfl) ?_ hD ?_
    · intro i x H' Qk hx e2 qk
      obtain ⟨r, hr1, hxr⟩ := Pa.get' hrs' hx
      have g := good r (List.mem_of_getElem? hr1)
      refine ⟨_, rfl, ta, us, rfl, .inr (Evl.ex_t e2 hta1), _, rfl, x, r, rfl, hxr.up (Tk.ex e2), g.fit, g.pre, fun H'' e3 => ?_⟩
      have fw := g.few
      refine ⟨ts.length, vc r, by rw [ul], by omega, by unfold vc; omega, ?_⟩
      have := rInst_len t4 g.few (ts := ts) (r := r)
      unfold rInst at this
      rw [List.length_map, len_rows] at this
      exact qk _ H'' e3 ⟨_, this, rfl⟩
    · intro H2 acc e2 hDa hl hR
      obtain ⟨ns, m, rfl, hs, hm⟩ := ints_of hR
      refine ⟨D, ns, rfl, .inl (.inl hDa), _, _, rfl, rfl, _, rfl, ?_⟩
      have hm2 : (ns.map V.int).length * 64 ≤ 6 * 64 := Nat.mul_le_mul_right _ (by omega)
      rw [hs, decide_eq_false (show ¬ (600 : Int) < (m : Int) by omega)]
      refine iteF ?_
      refine ⟨szl (Nat.zero_le _), fun L hL => ?_⟩
      have e3 : Ex H2 (upd H2 L (.lst [])) := Ex.new hL
      have pL : p ≠ L := ne_new (e2 _ _ hp) hL
      refine ⟨_, rfl, p, rfl, ⟨ws, .inl (.inl (e3 _ _ (e2 _ _ hp)))⟩, ?_⟩
      refine for_list (xs := ws) (fun i σ' H' => ∃ (acc : List V) (y4 y5 y6 y7 y8 y9 : Option V), σ' = [some (.ref ra), some (.ref ta), some (.ref p), some (.ref L), y4, y5, y6, y7, y8, y9, none, none] ∧ Ex H2 H' ∧ H' L = some (.lst acc) ∧ InstsA K L H' acc (allI (rs'.take i) ts))
        ⟨[], none, none, none, none, none, none, rfl, e3, upd_same, by simp [allI]; exact .nil⟩ (fun i σ' H' _ h => by obtain ⟨_, _, _, _, _, _, _, _, e, _⟩ := h; exact .inl (.inl (e _ _ (e2 _ _ hp)))) ?_ ?_
      · rintro i x σ' H' hx ⟨acc, y4, y5, y6, y7, y8, y9, rfl, e4, hLa, hacc⟩
        obtain ⟨r, hr1, hxr⟩ := Pa.get' hrs' hx
        have g := good r (List.mem_of_getElem? hr1)
        have fw : vc r ≤ 3 := g.few
        have e24 := e2.trans e4
        obtain ⟨a, pa, nm, c, ps, rfl, ha1, ha2, ha3, ha4⟩ := hxr.up (Tk.ex e24)
        have psl := Pa.len ha3
        have pre3 := g.pre
        refine ⟨a, _, rfl, ha1, rfl, _, _, rfl, _, _, rfl, _, _, rfl, rfl, ?_⟩
        refine ⟨_, rfl, _, rfl, _, rfl, szl (show 3 ≤ 100000 by decide), fun z hz => ?_⟩
        have e5 : Ex H' (upd H' z (.tup [.str nm, .ref pa, c])) := Ex.new hz
        refine ⟨_, r, rfl, ⟨z, pa, nm, c, ps, rfl, .inl (.inl upd_same), Evl.ex_t e5 ha2, ha3.up (Tk.ex e5), ha4.up (Tk.ex e5)⟩, g.fit, g.pre, fun H5 e6 => ?_⟩
        have e56 := e5.trans e6
        have e26 := e4.trans e56
        refine ⟨_, rfl, vc r, ta, us, ts, rfl, iteT (Evl.ex_t (e2.trans e26) hta1), I1.up (Tk.ex (e2.trans e26)), fw, t4, fun p2 ws2 H6 e7 hp2n hp2 hrows => ?_⟩
        have e57 := e56.trans e7
        have e27 := e4.trans e57
        have hL6 := e57 _ _ hLa
        have p2L : p2 ≠ L := (ne_new (e56 _ _ hLa) hp2n).symm
        have w2l := Pa.len hrows
        refine ⟨p2, rfl, ⟨ws2, .inl (.inl hp2)⟩, ?_⟩
        have I6 : InstsA K L H6 acc (allI (rs'.take i) ts) := InstsA.up hacc (Tk.ex e57) (Ls.ex e57)
        refine for_list (xs := ws2) (fun j σ2 H7 => ∃ (acc2 : List V) (y7 y8 y9 : Option V), σ2 = [some (.ref ra), some (.ref ta), some (.ref p), some (.ref L), some (.str nm), some (.ref pa), some c, y7, y8, y9, none, none] ∧ Ex H2 H7 ∧ Xb L H6 H7 ∧ H7 L = some (.lst acc2) ∧ InstsA K L H7 acc2 (allI (rs'.take i) ts ++ ((rows (vc r) ts).take j).map (inst r)))
          ⟨acc, y7, y8, y9, rfl, e27, Xb.refl _ _, hL6, by simpa using I6⟩ (fun j σ2 H7 _ h => by obtain ⟨_, _, _, _, _, _, e, _⟩ := h; exact .inl (.inl (e _ _ p2L hp2))) ?_ ?_
        · rintro j x σ2 H7 hxj ⟨acc2, y7, y8, y9, rfl, e28, x7, hL7, hacc2⟩
          obtain ⟨row, hrow, hrx⟩ := Pa.get' hrows hxj
          have k67 : Tk K H6 H7 := Tk.xb hL6 rfl x7
          have k07 : Tk K H' H7 := (Tk.ex e57).trans k67
          obtain ⟨rw, rvs, rfl, hrw, hrv⟩ := hrx.up k67
          obtain ⟨rowl, rowg, cong, preg⟩ := g.row I.gr (List.mem_of_getElem? hrow)
          have fit := g.fit
          have lo := g.lo
          simp only [Fits, Los] at fit lo
          refine ⟨_, rfl, _, rfl, c, r.con, rw, rvs, row, rfl, ha4.up k07, fit.1, hrw, hrv, by rw [rowl]; exact lo.1, by omega, fun fv H8 e9 hfv => ?_⟩
          obtain ⟨fa, rfl⟩ := gr_ref hfv cong
          have e29 := e28.trans e9
          have hL8 := e9 _ _ hL7
          have k08 := k07.trans (Tk.ex e9)
          refine ⟨_, rfl, pa, rfl, ⟨ps, k08 _ _ ha2⟩, fun tl htl => ?_⟩
          refine lc_ex (K := K) (xs := ps) (fun _ i y => ∀ t, r.prem[i]? = some t → y = .str (key (sub (at' row) t))) (fun H H' i y k h => h) (ys_tup fun H' e => Evl.ex_t e (k08 _ _ ha2)) (by omega) (by intro _; rfl) ?_ htl ?_
          · intro i' x H9 Qk hxi e10 qk
            obtain ⟨t, ht, hxt⟩ := Pa.get' ha3 hxi
            obtain ⟨tg, tlo, tfit⟩ := preg t (List.mem_of_getElem? ht)
            refine ⟨_, rfl, _, rfl, x, t, rw, rvs, row, rfl, hxt.up (k08.trans (Tk.ex e10)), tfit, Evl.ex_t (e9.trans e10) hrw, hrv.up (Tk.ex (e9.trans e10)), tlo, by omega, fun pv H10 e11 hpv => ?_⟩
            obtain ⟨pa', rfl⟩ := gr_ref hpv tg
            refine r_repr hpv ⟨tg.1.up (by omega), tg.2⟩ (qk _ H10 e11 fun t' ht' => ?_)
            rw [ht] at ht'
            rw [← Option.some.inj ht']
          · intro H9 tacc e10 htl9 htlen hR9
            have e210 := e29.trans e10
            have hL9 := e10 _ _ hL8
            have hfv9 := hfv.up (Tk.ex e10)
            have etexts : tacc = (subs (at' row) r.prem).map fun t => V.str (key t) := by
              rw [subs_map, List.map_map]
              exact map_of (by rw [htlen, psl]) fun i y t h1 h2 => hR9 i y h1 t h2
            refine ⟨_, rfl, .inl ⟨rfl, _, .inl (.inl hL9)⟩, ?_⟩
            have rp9 := rp (t := sub (at' row) r.con) ⟨cong.1.up (by omega), cong.2⟩
            refine ⟨_, rfl, _, rfl, _, rfl, _, rfl, fa, enc (sub (at' row) r.con), rfl, hfv9, rp9.1, rp9.2.1, rp9.2.2.1, rp9.2.2.2, ?_⟩
            refine ⟨_, rfl, szl (show 5 ≤ 100000 by decide), fun it hit => ?_⟩
            have e11 : Ex H9 (upd H9 it (.tup [.str nm, .ref rw, .ref fa, .str (enc (sub (at' row) r.con)).shown, .ref tl])) := Ex.new hit
            have tlL : tl ≠ L := (ne_new hL8 htl).symm
            have al := Pa.len hacc2
            have al2 := allI_len t4 (rs := rs'.take i) fun r hr => (good r (List.take_subset _ _ hr)).few
            have al3 : ((rows (vc r) ts).take j).length ≤ 64 := by
              have := rInst_len t4 fw (ts := ts) (r := r)
              unfold rInst at this
              rw [List.length_map] at this
              rw [List.length_take]
              omega
            have al4 : (rs'.take i).length * 64 ≤ 6 * 64 := Nat.mul_le_mul_right _ (by rw [List.length_take]; omega)
            rw [List.length_append, List.length_map] at al
            refine ⟨L, acc2, _, rfl, rfl, e11 _ _ hL9, szs (by omega), ?_⟩
            have hL10 := e11 _ _ hL9
            generalize hH10 : upd H9 it (.tup [.str nm, .ref rw, .ref fa, .str (enc (sub (at' row) r.con)).shown, .ref tl]) = H10 at e11 hL10 ⊢
            have hit10 : H10 it = some (.tup [.str nm, .ref rw, .ref fa, .str (enc (sub (at' row) r.con)).shown, .ref tl]) := by rw [← hH10]; exact upd_same
            have k11 : Tk K H10 (upd H10 L (.lst (acc2 ++ [.ref it]))) := Tk.xb hL10 rfl Xb.upd
            have l11 : Ls L H10 (upd H10 L (.lst (acc2 ++ [.ref it]))) := Ls.xb Xb.upd
            have e910 := (e9.trans e10).trans e11
            refine ⟨acc2 ++ [.ref it], _, _, _, rfl, (e210.trans e11).mutN hL, (x7.trans (Xb.ex e910)).mut, upd_same, ?_⟩
            rw [rInst_snoc hrow, ← List.append_assoc]
            refine Pa.snoc (InstsA.up hacc2 ((Tk.ex e910).trans k11) ((Ls.ex e910).trans l11)) ?_
            refine InstA.up ⟨it, _, _, _, tl, rfl, .inl (.inl hit10), hfv9.up (Tk.ex e11), ?_, tlL⟩ k11 l11
            rw [e11 _ _ htl9, etexts]
            rfl
        · rintro σ2 H7 ⟨acc2, y7, y8, y9, rfl, e28, x7, hL7, hacc2⟩
          rw [w2l, List.take_length] at hacc2
          refine ⟨acc2, _, _, _, _, _, _, rfl, e28, hL7, ?_⟩
          rw [allI_snoc hr1]
          exact hacc2
      · rintro σ' H' ⟨acc, y4, y5, y6, y7, y8, y9, rfl, e4, hLa, hacc⟩
        rw [wl, List.take_length] at hacc
        exact ⟨_, rfl, q L acc rs' H' (e1.trans (extN_ex (e2.trans e4))) (tabs_ex T1 (e2.trans e4)) hLa hacc perm⟩

end
end Orl
set_option Elab.async false
set_option linter.all false
set_option maxRecDepth 100000
set_option maxHeartbeats 4000000
namespace Orl
open PySem PySem.Spec PyProof.Rows L2
section
variable {P : Program} {w : World} {K : PySem.W.Frag} {mg : Str → Option Value} {base : Heap} {k : Nat} {f : Addr}
/-! dicts keyed by facts' texts, filtered lists -/
abbrev kf (f : T) : Key := Sum.inr (key f)
def KA (kvs : List (Key × V)) (fs : List T) : Prop := kvs.map (·.1) = fs.map kf
theorem ka_get {d : Nat} {g : T} (hg : Gr d g) : ∀ {kvs : List (Key × V)} {fs : List T}, KA kvs fs → (∀ f ∈ fs, Gr d f) → (valV kvs (kf g)).isSome = decide (g ∈ fs)
  | [], [], _, _ => rfl
  | [], _ :: _, h, _ => by cases h
  | _ :: _, [], h, _ => by cases h
  | p :: kvs, f :: fs, h, hf => by
    have h1 : p.1 = kf f := (List.cons.inj h).1
    have h2 : KA kvs fs := (List.cons.inj h).2
    have ih := ka_get hg h2 fun f hf' => hf f (List.mem_cons_of_mem _ hf')
    by_cases e : g = f
    · subst e
      rw [valV_pos h1]
      simp
    · have ne : ¬ p.1 = kf g := by
        rw [h1]
        intro z
        have := Sum.inr.inj z
        exact e (key_inj (hf f (List.mem_cons_self ..)).1 (hf f (List.mem_cons_self ..)).2 hg.1 hg.2 this).symm
      rw [valV_neg ne, ih]
      simp [e]
theorem ka_put {d : Nat} {g : T} {v : V} {kvs : List (Key × V)} {fs : List T} (hg : Gr d g) (h : KA kvs fs) (hf : ∀ f ∈ fs, Gr d f) (hn : g ∉ fs) : putK kvs (kf g) v = kvs ++ [(kf g, v)] ∧ KA (kvs ++ [(kf g, v)]) (fs ++ [g]) := by
  have e := ka_get hg h hf
  rw [decide_eq_false hn] at e
  refine ⟨putK_new _ (Option.isNone_iff_eq_none.mp (by simpa using e)), ?_⟩
  unfold KA at h ⊢
  rw [List.map_append, List.map_append, h]
  rfl
theorem KA.len {kvs : List (Key × V)} {fs : List T} (h : KA kvs fs) : kvs.length = fs.length := by
  have := congrArg List.length h
  simpa using this
/-- the values: instances -/
def IA (K : PySem.W.Frag) (q : Addr) (H : Hp) (kv : Key × V) (f : T) : Prop := ∃ i : Inst, i.2 = f ∧ InstA K q H kv.2 i
abbrev IAs (K : PySem.W.Frag) (q : Addr) (H : Hp) (kvs : List (Key × V)) (fs : List T) : Prop := Paired (IA K q H) kvs fs
theorem IAs.up {q : Addr} {H H' : Hp} {kvs : List (Key × V)} {fs : List T} (h : IAs K q H kvs fs) (k : Tk K H H') (l : Ls q H H') : IAs K q H' kvs fs := Pa.imp h fun _ _ ⟨i, e, z⟩ => ⟨i, e, z.up k l⟩
theorem len_sub {α : Type} [DecidableEq α] : ∀ (l2 l1 : List α), l1.Nodup → (∀ a ∈ l1, a ∈ l2) → l1.length ≤ l2.length
  | [], l1, _, h => by
    cases l1 with
    | nil => exact Nat.le_refl _
    | cons a l => exact absurd (h a (List.mem_cons_self ..)) (by simp)
  | b :: l2, l1, nd, h => by
    by_cases hb : b ∈ l1
    · have h2 : (l1.erase b).length ≤ l2.length := len_sub l2 _ (nd.erase b) fun a ha => by
        have h3 := (List.Nodup.mem_erase_iff nd).mp ha
        rcases List.mem_cons.mp (h a h3.2) with e | e
        · exact absurd e h3.1
        · exact e
      rw [List.length_erase_of_mem hb] at h2
      rw [List.length_cons]
      omega
    · have h2 := len_sub l2 l1 nd fun a ha => by
        rcases List.mem_cons.mp (h a ha) with e | e
        · exact absurd (e ▸ ha) hb
        · exact e
      rw [List.length_cons]
      omega
/-- [x for x in xs if ..] -/
theorem lc_filt {J : It} {tt : TT} {te : TE} {σ : L2.St} {vs : List Nat} {j : Nat} {D : Addr} {Qd : Hp → Prop} {xs : List V} {H1 : Hp} {β : Type} {S : V → β → Prop} {zs : List β} (p : β → Bool) (hs : Paired S xs zs) (ys : Ys J (Ex H1) xs) (hz : xs.length ≤ 100000)
    (hw : ∀ x, wipe ((wipe σ vs).set j (some x)) vs = wipe σ vs)
    (tst : ∀ (i : Nat) (x : V) (z : β) (H' : Hp) (Qk : Bool → Hp → Prop), xs[i]? = some x → zs[i]? = some z → S x z → Ex H1 H' → (∀ H'', Ex H' H'' → Qk (p z) H'') → tt ((wipe σ vs).set j (some x)) H' Qk)
    (el : ∀ (x : V) (H' : Hp) (Qk : VK), Qk x H' → te ((wipe σ vs).set j (some x)) H' Qk)
    (hD : H1 D = none) (done : ∀ H' acc, Ex H1 H' → H' D = some (.lst acc) → Paired S acc (zs.filter p) → Qd H') :
    ∃ W : Nat → Nat → Hp → Prop, (∃ m, W 0 m (upd H1 D (.lst []))) ∧ ∀ i m H, W i m H →
      (J.stop i H ∧ Qd H) ∨ (J.go i H ∧ ∃ Nx : Hp → Prop, (∀ H', Nx H' → ∃ m', m' < m ∧ W (i + 1) m' H') ∧ ∀ x H', J.yld i H x H' → gName j x (wipe σ vs) H' fun σ2 H2 => wipe σ2 vs = wipe σ vs ∧ tt σ2 H2 fun b H3 =>
        if b = true then te σ2 H3 fun y H4 => ∃ acc, H4 D = some (.lst acc) ∧ acc.length < sizeLine ∧ Nx (upd H4 D (.lst (acc ++ [y]))) else Nx H3) := by
  have hl := Pa.len hs
  refine ⟨fun i m H' => i + m = xs.length ∧ Ex H1 H' ∧ ∃ acc, H' D = some (.lst acc) ∧ Paired S acc ((zs.take i).filter p), ⟨xs.length, by simp, Ex.new hD, [], upd_same, .nil⟩, ?_⟩
  rintro i m H' ⟨e, hE, acc, hDa, hP⟩
  obtain ⟨y1, y2, y3⟩ := ys i H' hE
  cases m with
  | zero =>
    refine .inl ⟨y2 (by omega), done H' acc hE hDa ?_⟩
    rw [show i = zs.length by omega, List.take_length] at hP
    exact hP
  | succ m =>
    refine .inr ⟨y1 (by omega), fun H' => Ex H1 H' ∧ ∃ acc, H' D = some (.lst acc) ∧ Paired S acc ((zs.take (i + 1)).filter p), fun H2 q => ⟨m, Nat.lt_succ_self _, by omega, q⟩, ?_⟩
    intro x H2 hy
    obtain ⟨rfl, hx⟩ := y3 x H2 (by omega) hy
    obtain ⟨z, hz1, hSz⟩ := Pa.get' hs hx
    refine ⟨hw x, tst i x z H2 _ hx hz1 hSz hE fun H3 e3 => ?_⟩
    have al := Pa.len hP
    have al2 := List.length_filter_le p (zs.take i)
    rw [List.length_take] at al2
    have hD3 := e3 _ _ hDa
    rw [take_snoc hz1, List.filter_append]
    cases hp : p z with
    | true =>
      refine iteT (el x H3 _ ⟨acc, hD3, szs (by omega), (hE.trans e3).mutN hD, acc ++ [x], upd_same, ?_⟩)
      rw [show [z].filter p = [z] by simp [hp]]
      exact Pa.snoc hP hSz
    | false =>
      refine iteF ⟨hE.trans e3, acc, hD3, ?_⟩
      rw [show [z].filter p = [] by simp [hp], List.append_nil]
      exact hP

end
end Orl
set_option Elab.async false
set_option linter.all false
set_option maxRecDepth 100000
set_option maxHeartbeats 4000000
namespace Orl
open PySem PySem.Spec PyProof.Rows L2
section
variable {P : Program} {w : World} {K : PySem.W.Frag} {mg : Str → Option Value} {base : Heap} {k : Nat} {f : Addr}
/-! first_instances -/
abbrev SCOPE_first_instances_64 : Scope := { kind := ScopeKind.function, names := [(Str.ofString ".0", NameKind.local), (Str.ofString "row", NameKind.local), (Str.ofString "all", NameKind.globalImplicit), (Str.ofString "known", NameKind.cell)], isGenerator := false, isCoroutine := false, more := [] }
theorem all_map (l : List T) (p : T → Bool) : (l.map p).all id = l.all p := by rw [List.all_map]; rfl
theorem bls_of {p : T → Bool} : ∀ {acc : List V} {ts : List T}, acc.length = ts.length → (∀ (i : Nat) (y : V) (t : T), acc[i]? = some y → ts[i]? = some t → y = .bl (p t)) → acc = (ts.map p).map V.bl := by
  intro acc ts h f
  rw [List.map_map]
  exact map_of h f
abbrev usable (fs : List T) (i : Inst) : Bool := i.1.all fun p => decide (p ∈ fs)
theorem perm_mem {rs rs' : List Rl} {ts : List T} (h : (rs ++ [rfl']).Perm rs') {i : Inst} : i ∈ allI rs' ts ↔ IsI (rfl' :: rs) ts i := by
  rw [mem_allI]
  have e : ∀ r, r ∈ rs' ↔ r ∈ rfl' :: rs := fun r => by
    rw [← h.mem_iff, List.mem_append, List.mem_singleton, List.mem_cons, or_comm]
  constructor
  · rintro ⟨r, hr, z⟩
    exact ⟨r, (e r).mp hr, z⟩
  · rintro ⟨r, hr, z⟩
    exact ⟨r, (e r).mpr hr, z⟩
def spFirst (K : PySem.W.Frag) (P : Addr) : Pr := fun vs H Q => ∃ (ra ta : Addr) (h d : Nat) (xs : List V) (rs : List Rl) (us : List V) (ts : List T), vs = [.ref ra, .ref ta, .int h] ∧ SqT K H ra xs ∧ SqT K H ta us ∧ Inp K H P d xs rs us ts ∧ h ≤ 20 ∧
  ∀ c q kvs fs H', LamX.ExtN H H' → LamX.Tabs (TbT P) H' → H' c = some (.dK kvs) → KA kvs fs → IAs K q H' kvs fs → Is (IsI (rfl' :: rs) ts) h fs → fs.length ≤ 400 → Q (.ref c) H'
abbrev Nfirst_instances : List Str := ["rules", "terms", "height", "known", "rows", "_", "row", "usable", "text"]
theorem sc_first_instances : FnScope Nfirst_instances ["rules", "terms", "height"] (defScope s_first_instances) := ⟨rfl, rfl, rfl, by decide +kernel, rfl, by decide +kernel, by decide +kernel⟩
theorem ok_first_instances {TP : Addr} (F : FnP K "first_instances" s_first_instances f) (Tx : Top mg) (h_ground_instances : Has P w K mg base k "ground_instances" 2 (spGround K TP)) : FnG P w K mg base (k + 1) f 3 (spFirst K TP) := by
  refine F.ok sc_first_instances (fun _ _ _ _ _ _ us hl => match us, hl with | [_, _, _], _ => rfl) (fun vs H Q h => ?_) (fun cdv A outer s H vs Q hr hG h => ?_)
  · obtain ⟨ra, ta, ht, d, xs, rs, us, ts, rfl, _⟩ := h
    rfl
  · have nd := sc_first_instances.nd
    obtain ⟨ra, ta, h, d, xs, rs, us, ts, rfl, hra, hta, I, h20, q⟩ := h
    refine ⟨_, ((pss_cons (ps_set (i := 3) nd rfl (Or.inr rfl) pe_dnewK)
  (pss_cons (ps_set (i := 4) nd rfl (Or.inl rfl) (pe_own h_ground_instances hr hG (by rfl) (pa_cons (pv 0) (pa_cons (pv 1) pa_nil))))
  (pss_cons (ps_for PassesOwn.never rfl (pi_range1 (by rfl) Tx.range (pa_cons (pv 2) pa_nil)) (pg_name (i := 5) nd rfl (Or.inl rfl))
    (pss_cons (ps_setLc (i := 7) (own := [("row", 6)]) (g := gName 6) rfl nd rfl rfl (sw_true rfl rfl rfl (by decide +kernel)) (pi_list (pv 4)) (blkOk_by (own := [("row", 6)]) (N := Nfirst_instances) (sc := defScope s_first_instances) (by decide +kernel)) (fun _ _ _ _ _ => pg_name (i := 6) nd rfl (Or.inl rfl)) (fun _ _ _ _ _ => pts_one (pt_val (pe_callB (r := rAll K) (cr_all rfl) (by rfl) Tx.all (by decide +kernel) (pa_cons (pe_lc (own := [("text", 8)]) (g := gName 8) (tt := tYes) rfl nd (show PI _ _ _ (iList K _) from (pi_list (pe_ix (r := rIxT K) ix_tup (pv 6) pe_int (fun _ _ => rfl)))) (blkOk_by (own := [("text", 8)]) (N := Nfirst_instances) (sc := SCOPE_first_instances_64) (by decide +kernel)) (fun _ _ _ _ _ => pg_name (i := 8) nd rfl (Or.inl rfl)) (fun _ _ _ _ _ => pts_nil) (fun _ _ _ _ _ => (pe_cmp (pc_din (hu_of hr) (pv 8) (pv 3))))) pa_nil)))) (fun _ _ _ _ _ => (pv 6)))
  (pss_one (ps_for PassesOwn.never rfl (pi_list (pv 7)) (pg_name (i := 6) nd rfl (Or.inl rfl))
    (pss_one (ps_if (pt_cmp (pc_dnotin (hu_of hr) (pe_ix ix_tup (pv 6) pe_int (fun _ _ => rfl)) (pv 3)))
    (pss_one (ps_dput (hu_of hr) (pv 3) (pe_ix ix_tup (pv 6) pe_int (fun _ _ => rfl)) (pv 6) rfl))
    pss_nil))))))
  (pss_one (ps_ret (pv 3))))))), ?_⟩
    refine fun c hc => ?_
    have e0 : Ex H (upd H c (.dK [])) := Ex.new hc
    have hc0 : upd H c (.dK []) c = some (.dK []) := upd_same
    refine ⟨_, rfl, _, rfl, ra, ta, d, xs, rs, us, ts, rfl, Evl.ex_t e0 hra, Evl.ex_t e0 hta, ⟨RlsA.up I.r (Tk.ex e0), I.t.up (Tk.ex e0), I.good, I.gr, I.r5, I.t4, I.d4, tabs_ex I.tab e0⟩, fun p ws rs' H1 e1 T1 hp hws perm => ?_⟩
    have hc1 : H1 c = some (.dK []) := e1 _ _ hc0 (fun ps z => by cases z)
    have pc : p ≠ c := by
      rintro rfl
      rw [hc1] at hp
      cases hp
    have good' : ∀ r ∈ rs', Good r := fun r hr => by
      have := perm.mem_iff.mpr hr
      rcases List.mem_append.mp this with h | h
      · exact I.good r h
      · rw [List.mem_singleton.mp h]
        exact Good.rfl'
    have hP : ∀ {i : Inst}, i ∈ allI rs' ts ↔ IsI (rfl' :: rs) ts i := perm_mem perm
    have gnd : ∀ {i : Inst}, i ∈ allI rs' ts → Gr 8 i.2 ∧ ∀ p ∈ i.1, Gr 8 p := fun hi => by
      obtain ⟨h1, h2⟩ := inst_ground good' I.gr (mem_allI.mp hi)
      have d4 := I.d4
      exact ⟨⟨h1.1.up (by omega), h1.2⟩, fun p hp => ⟨(h2 p hp).1.up (by omega), (h2 p hp).2⟩⟩
    have r5 := I.r5
    have rl : rs'.length = rs.length + 1 := by rw [← perm.length_eq]; simp
    have il := allI_len I.t4 (rs := rs') fun r hr => (good' r hr).few
    have il2 : rs'.length * 64 ≤ 6 * 64 := Nat.mul_le_mul_right _ (by omega)
    have wl := Pa.len hws
    have pre3 : ∀ {i : Inst}, i ∈ allI rs' ts → i.1.length ≤ 3 := fun hi => by
      obtain ⟨r, hr, row, _, _, rfl⟩ := mem_allI.mp hi
      simp only [inst, subs_map, List.length_map]
      exact (good' r hr).pre
    have bound : ∀ {fs : List T}, fs.Nodup → (∀ f ∈ fs, ∃ i ∈ allI rs' ts, i.2 = f) → fs.length ≤ 400 := fun nd hm => by
      have := len_sub ((allI rs' ts).map (·.2)) _ nd fun f hf => by
        obtain ⟨i, hi, e⟩ := hm f hf
        exact List.mem_map.mpr ⟨i, hi, e⟩
      rw [List.length_map] at this
      omega
    refine ⟨_, rfl, h, rfl, by omega, by omega, ?_⟩
    refine for_range (lo := 0) (n := (h : Int).toNat) (fun n σ' H' => ∃ (y5 y6 y7 : Option V) (kvs : List (Key × V)) (fs : List T), σ' = [some (.ref ra), some (.ref ta), some (.int h), some (.ref c), some (.ref p), y5, y6, y7, none] ∧ Xb c H1 H' ∧ H' c = some (.dK kvs) ∧ KA kvs fs ∧ IAs K p H' kvs fs ∧ Is (IsI (rfl' :: rs) ts) n fs)
      ⟨none, none, none, [], [], rfl, Xb.refl _ _, hc1, rfl, .nil, Is.zero⟩ ?_ ?_
    · rintro n σ' H' hn ⟨y5, y6, y7, kvs, fs, rfl, x1, hcd, ka, ia, is⟩
      have hp' : H' p = some (.lst ws) := x1 _ _ pc hp
      have hws' : InstsA K p H' ws (allI rs' ts) := InstsA.up hws (Tk.xb hc1 rfl x1) (Ls.dct hc1 x1)
      have fI : ∀ f ∈ fs, ∃ i ∈ allI rs' ts, i.2 = f := fun f hf => by
        have := (is.iff f).mp hf
        cases n with
        | zero => exact this.elim
        | succ n =>
          obtain ⟨i, hi, e, _⟩ := this
          exact ⟨i, hP.mpr hi, e⟩
      have fg : ∀ f ∈ fs, Gr 8 f := fun f hf => by
        obtain ⟨i, hi, rfl⟩ := fI f hf
        exact (gnd hi).1
      refine ⟨_, rfl, p, rfl, ⟨ws, .inl (.inl hp')⟩, fun D hD => ?_⟩
      have hS : Paired (fun v i => InstA K p H' v i ∧ i ∈ allI rs' ts) ws (allI rs' ts) := by
        have key : ∀ {ws : List V} {is : List Inst}, InstsA K p H' ws is → (∀ i ∈ is, i ∈ allI rs' ts) → Paired (fun v i => InstA K p H' v i ∧ i ∈ allI rs' ts) ws is := by
          intro ws is h
          induction h with
          | nil => exact fun _ => .nil
          | cons a b ih => exact fun hm => .cons ⟨a, hm _ (List.mem_cons_self ..)⟩ (ih fun i hi => hm i (List.mem_cons_of_mem _ hi))
        exact key hws' fun i hi => hi
      refine lc_filt (usable fs) hS (ys_list fun H'' e => .inl (.inl (e _ _ hp'))) (by omega) (by intro _; rfl) ?_ (fun x H'' Qk qk => ⟨x, rfl, qk⟩) hD ?_
      · rintro i x z H2 Qk hx hz ⟨hxz, hzm⟩ e2 qk
        obtain ⟨r, nm, rw, fv, tl, rfl, h1, h2, h3, h4⟩ := hxz.up (Tk.ex e2) (Ls.ex e2)
        have hc2 := e2 _ _ hcd
        refine ⟨_, rfl, r, _, 4, _, rfl, rfl, h1, at4, tl, rfl, ⟨_, .inl (.inl h3)⟩, fun D2 hD2 => ?_⟩
        refine lc_ex (K := K) (xs := z.1.map fun t => V.str (key t)) (fun _ i y => ∀ t, z.1[i]? = some t → y = .bl (decide (t ∈ fs))) (fun H H' i y k h => h) (ys_list fun H'' e => .inl (.inl (e _ _ h3))) (by rw [List.length_map]; have := pre3 hzm; omega) (by intro _; rfl) ?_ hD2 ?_
        · intro i2 x2 H3 Qk2 hx2 e3 qk2
          rw [List.getElem?_map] at hx2
          obtain ⟨t, ht⟩ : ∃ t, z.1[i2]? = some t := by
            cases e : z.1[i2]? with
            | none => rw [e] at hx2; cases hx2
            | some t => exact ⟨t, rfl⟩
          rw [ht] at hx2
          have hx2 := Option.some.inj hx2
          subst hx2
          refine ⟨_, rfl, _, rfl, c, _, rfl, DGet.k (k := kf t) (e3 _ _ hc2), ?_⟩
          refine qk2 _ H3 (Ex.refl _) fun t' ht' => ?_
          rw [ht] at ht'
          rw [← Option.some.inj ht', ka_get ((gnd hzm).2 t (List.mem_of_getElem? ht)) ka fg]
        · intro H3 acc e3 hDa hl hR
          have ea := bls_of (p := fun t => decide (t ∈ fs)) (by rw [hl, List.length_map]) fun i y t h1 h2 => hR i y h1 t h2
          refine ⟨D2, _, rfl, by rw [ea] at hDa; exact .inl (.inl hDa), _, rfl, ?_⟩
          have := qk H3 e3
          rw [all_map]
          exact this
      · intro H2 acc e2 hDa hacc
        have x2 : Xb c H1 H2 := x1.trans (Xb.ex e2)
        have hc2 := e2 _ _ hcd
        have Dc : D ≠ c := (ne_new hcd hD).symm
        have al := Pa.len hacc
        refine ⟨_, rfl, D, rfl, ⟨acc, .inl (.inl hDa)⟩, ?_⟩
        have ia2 : IAs K p H2 kvs fs := IAs.up ia (Tk.ex e2) (Ls.ex e2)
        refine for_list (xs := acc) (fun i σ' H3 => ∃ (y6 : Option V) (kvs' : List (Key × V)) (gs : List T), σ' = [some (.ref ra), some (.ref ta), some (.int h), some (.ref c), some (.ref p), some (.int (0 + (n : Int))), y6, some (.ref D), none] ∧ Xb c H2 H3 ∧ H3 c = some (.dK kvs') ∧ KA kvs' gs ∧ IAs K p H3 kvs' gs ∧ gs.Nodup ∧ ∀ g, g ∈ gs ↔ g ∈ fs ∨ ∃ i' ∈ ((allI rs' ts).filter (usable fs)).take i, i'.2 = g)
          ⟨_, kvs, fs, rfl, Xb.refl _ _, hc2, ka, ia2, is.nd, fun g => by simp⟩ (fun i σ' H3 _ h => by obtain ⟨_, _, _, _, e, _⟩ := h; exact .inl (.inl (e _ _ Dc hDa))) ?_ ?_
        · rintro i x σ' H3 hx ⟨y6, kvs', gs, rfl, x3, hc3, ka3, ia3, nd3, hg3⟩
          obtain ⟨z, hz, hxz, hzm⟩ := Pa.get' hacc hx
          obtain ⟨r, nm, rw, fv, tl, rfl, h1, h2, h3, h4⟩ := (hxz.up (Tk.ex e2) (Ls.ex e2)).up (Tk.xb hc2 rfl x3) (Ls.dct hc2 x3)
          have gI : ∀ g ∈ gs, ∃ i ∈ allI rs' ts, i.2 = g := fun g hg => by
            rcases (hg3 g).mp hg with h | ⟨i', hi', e⟩
            · exact fI g h
            · exact ⟨i', (List.mem_filter.mp (List.take_subset _ _ hi')).1, e⟩
          have gg : ∀ g ∈ gs, Gr 8 g := fun g hg => by
            obtain ⟨i, hi, rfl⟩ := gI g hg
            exact (gnd hi).1
          have gz := (gnd hzm).1
          refine ⟨_, rfl, r, _, 3, _, rfl, rfl, h1, at3, _, rfl, c, _, rfl, DGet.k (k := kf z.2) hc3, _, rfl, ?_⟩
          rw [ka_get gz ka3 gg]
          by_cases hm : z.2 ∈ gs
          · rw [decide_eq_true hm]
            refine iteF ⟨_, kvs', gs, rfl, x3, hc3, ka3, ia3, nd3, fun g => ?_⟩
            rw [hg3, take_snoc hz]
            constructor
            · rintro (h | ⟨i', hi', e⟩)
              · exact .inl h
              · exact .inr ⟨i', List.mem_append.mpr (.inl hi'), e⟩
            · rintro (h | ⟨i', hi', e⟩)
              · exact .inl h
              · rcases List.mem_append.mp hi' with h' | h'
                · exact .inr ⟨i', h', e⟩
                · rw [List.mem_singleton.mp h'] at e
                  exact (hg3 g).mp (e ▸ hm)
          · rw [decide_eq_false hm]
            obtain ⟨ep, ka4⟩ := ka_put (v := .ref r) gz ka3 gg hm
            refine iteT ?_
            refine ⟨_, rfl, _, rfl, _, rfl, r, _, 3, _, rfl, rfl, h1, at3, c, _, rfl, DPut.k (k := kf z.2) hc3 (szs (by rw [ka3.len]; have := bound nd3 gI; omega)), ?_⟩
            have k4 : Tk K H3 (upd H3 c (.dK (putK kvs' (kf z.2) (.ref r)))) := Tk.xb hc3 rfl Xb.upd
            have l4 : Ls p H3 (upd H3 c (.dK (putK kvs' (kf z.2) (.ref r)))) := Ls.dct hc3 Xb.upd
            refine ⟨_, kvs' ++ [(kf z.2, .ref r)], gs ++ [z.2], rfl, x3.mut, by rw [upd_same, ep], ka4, Pa.snoc (IAs.up ia3 k4 l4) ⟨z, rfl, InstA.up ⟨r, nm, rw, fv, tl, rfl, h1, h2, h3, h4⟩ k4 l4⟩, ?_, fun g => ?_⟩
            · have := nodup_enter (f := z.2) nd3
              unfold enter at this
              rw [if_neg hm] at this
              exact this
            · rw [List.mem_append, List.mem_singleton, hg3, take_snoc hz]
              constructor
              · rintro ((h | ⟨i', hi', e⟩) | e)
                · exact .inl h
                · exact .inr ⟨i', List.mem_append.mpr (.inl hi'), e⟩
                · exact .inr ⟨z, List.mem_append.mpr (.inr (List.mem_singleton.mpr rfl)), e.symm⟩
              · rintro (h | ⟨i', hi', e⟩)
                · exact .inl (.inl h)
                · rcases List.mem_append.mp hi' with h' | h'
                  · exact .inl (.inr ⟨i', h', e⟩)
                  · rw [List.mem_singleton.mp h'] at e
                    exact .inr e.symm
        · rintro σ' H3 ⟨y6, kvs', gs, rfl, x3, hc3, ka3, ia3, nd3, hg3⟩
          rw [al, List.take_length] at hg3
          refine ⟨_, _, _, kvs', gs, rfl, x2.trans x3, hc3, ka3, ia3, ?_⟩
          refine is.round nd3 hg3 (fun i hi => ?_) fun i hi hpr => .inr ?_
          · obtain ⟨h1, h2⟩ := List.mem_filter.mp hi
            refine ⟨hP.mp h1, fun p hp => ?_⟩
            have := List.all_eq_true.mp h2 p hp
            exact of_decide_eq_true this
          · exact List.mem_filter.mpr ⟨hP.mpr hi, List.all_eq_true.mpr fun p hp => decide_eq_true (hpr p hp)⟩
    · rintro σ' H' ⟨y5, y6, y7, kvs, fs, rfl, x1, hcd, ka, ia, is⟩
      rw [Int.toNat_natCast] at is
      have T' : LamX.Tabs (TbT TP) H' := fun z hz => by
        obtain ⟨ps, h1, h2, h3⟩ := T1 z hz
        have no : ∀ b o, H1 b = some o → (∀ xs, o ≠ .dK xs) → H' b = some o := fun b o h n => x1 b o (by rintro rfl; rw [hc1] at h; exact n [] (Option.some.inj h).symm) h
        refine ⟨ps, no _ _ h1 (fun xs z => by cases z), h2, fun pos cv hcv => ?_⟩
        obtain ⟨c', e1, e2⟩ := h3 pos cv hcv
        exact ⟨c', e1, no _ _ e2 (fun xs z => by cases z)⟩
      have eN : LamX.ExtN H H' := fun b o hb nt => x1 b o (ne_new hb hc) (e1 b o (e0 b o hb) nt)
      refine ⟨_, rfl, q c p kvs fs H' eN T' hcd ka ia is (bound is.nd fun f hf => ?_)⟩
      have := (is.iff f).mp hf
      cases h with
      | zero => exact this.elim
      | succ n =>
        obtain ⟨i, hi, e, _⟩ := this
        exact ⟨i, hP.mpr hi, e⟩

end
end Orl
set_option Elab.async false
set_option linter.all false
set_option maxRecDepth 100000
set_option maxHeartbeats 4000000
namespace Orl
open PySem PySem.Spec PyProof.Rows L2
section
variable {P : Program} {w : World} {K : PySem.W.Frag} {mg : Str → Option Value} {base : Heap} {k : Nat} {f : Addr}
/-! facts_within -/
theorem ys_keys {d : Addr} {o : Obj} {kvs : List (Key × V)} {F : Hp → Prop} (h : ∀ H', F H' → H' d = some (.frz o (.dK kvs))) : Ys (Itk d o kvs) F (kvs.map fun kv => kV kv.1) := fun i H' hF => by
  rw [List.length_map]
  refine ⟨fun hi => ⟨h H' hF, hi⟩, fun hi => ⟨h H' hF, hi⟩, ?_⟩
  rintro x H'' hi ⟨e, k, v, h1, rfl⟩
  refine ⟨e, ?_⟩
  rw [List.getElem?_map, h1]
  rfl
theorem valV_nd : ∀ {kvs : List (Key × V)} {i : Nat} {k : Key} {v : V}, (kvs.map (·.1)).Nodup → kvs[i]? = some (k, v) → valV kvs k = some v
  | [], i, k, v, _, h => by simp at h
  | p :: kvs, 0, k, v, _, h => by
    have h := Option.some.inj h
    subst h
    exact valV_pos rfl
  | p :: kvs, i + 1, k, v, nd, h => by
    have h' : kvs[i]? = some (k, v) := by simpa using h
    rw [List.map_cons, List.nodup_cons] at nd
    have ne : ¬ p.1 = k := fun e => nd.1 (by rw [e]; exact List.mem_map.mpr ⟨(k, v), List.mem_of_getElem? h', rfl⟩)
    rw [valV_neg ne]
    exact valV_nd nd.2 h'
theorem ka_nd {kvs : List (Key × V)} {fs : List T} {d : Nat} (h : KA kvs fs) (nd : fs.Nodup) (hg : ∀ f ∈ fs, Gr d f) : (kvs.map (·.1)).Nodup := by
  rw [h, List.nodup_iff_pairwise_ne, List.pairwise_map]
  refine (List.nodup_iff_pairwise_ne.mp nd).imp_of_mem ?_
  intro a b ha hb hne e
  exact hne (key_inj (hg a ha).1 (hg a ha).2 (hg b hb).1 (hg b hb).2 (Sum.inr.inj e))
def spWithin (K : PySem.W.Frag) (P : Addr) : Pr := fun vs H Q => ∃ (ra ta : Addr) (h d : Nat) (xs : List V) (rs : List Rl) (us : List V) (ts : List T), vs = [.ref ra, .ref ta, .int h] ∧ SqT K H ra xs ∧ SqT K H ta us ∧ Inp K H P d xs rs us ts ∧ h ≤ 20 ∧
  ∀ p ws L H', LamX.ExtN H H' → LamX.Tabs (TbT P) H' → SqT K H' p ws → TsA K H' ws L → Facts rs ts h L → L.length ≤ 400 → Q (.ref p) H'
abbrev Nfacts_within : List Str := ["rules", "terms", "height", "known", "text"]
theorem sc_facts_within : FnScope Nfacts_within ["rules", "terms", "height"] (defScope s_facts_within) := ⟨rfl, rfl, rfl, by decide +kernel, rfl, by decide +kernel, by decide +kernel⟩
theorem ok_facts_within {TP : Addr} (F : FnP K "facts_within" s_facts_within f) (Tx : Top mg) (h_first_instances : Has P w K mg base k "first_instances" 3 (spFirst K TP)) : FnG P w K mg base (k + 1) f 3 (spWithin K TP) := by
  refine F.ok sc_facts_within (fun _ _ _ _ _ _ us hl => match us, hl with | [_, _, _], _ => rfl) (fun vs H Q h => ?_) (fun cdv A outer s H vs Q hr hG h => ?_)
  · obtain ⟨ra, ta, ht, d, xs, rs, us, ts, rfl, _⟩ := h
    rfl
  · have nd := sc_facts_within.nd
    obtain ⟨ra, ta, h, d, xs, rs, us, ts, rfl, hra, hta, I, h20, q⟩ := h
    refine ⟨_, ((pss_cons (ps_set (i := 3) nd rfl (Or.inr rfl) (pe_own h_first_instances hr hG (by rfl) (pa_cons (pv 0) (pa_cons (pv 1) (pa_cons (pv 2) pa_nil)))))
  (pss_one (ps_ret (pe_callTy call_tuple_of (by rfl) Tx.tuple (by decide +kernel) (pa_cons (pe_callB (call_sortedT (un70 hr)) (by rfl) Tx.sorted (by decide +kernel) (pa_cons (pe_lock (pe_lc (own := [("text", 4)]) (g := gName 4) (tt := tYes) rfl nd (pi_keys (pv 3)) (blkOk_by (own := [("text", 4)]) (N := Nfacts_within) (sc := defScope s_facts_within) (by decide +kernel)) (fun _ _ _ _ _ => pg_name (i := 4) nd rfl (Or.inl rfl)) (fun _ _ _ _ _ => pts_nil) (fun _ _ _ _ _ => (pe_ix (r := rIxT K) ix_tup (pe_dget (hu_of hr) (pv 3) (pv 4) (fun _ _ => rfl)) pe_int (fun _ _ => rfl))))) pa_nil)) pa_nil)))))), ?_⟩
    refine ⟨_, rfl, _, rfl, _, rfl, ra, ta, h, d, xs, rs, us, ts, rfl, hra, hta, I, h20, fun c q0 kvs fs H1 e1 T1 hc ka ia is f4 => ?_⟩
    have d4 := I.d4
    have fg : ∀ f ∈ fs, Gr 7 f := fun f hf => by
      have := Fc.ground I.good I.gr (show Fc rs ts h f from (is.iff f).mp hf)
      exact ⟨this.1.up (by omega), this.2⟩
    refine ⟨c, .dK kvs, hc, trivial, fun od => ?_⟩
    have hc2 : upd H1 c (.frz od (.dK kvs)) c = some (.frz od (.dK kvs)) := upd_same
    have k12 : Tk K H1 (upd H1 c (.frz od (.dK kvs))) := Tk.xb hc rfl Xb.upd
    have il := Pa.len ia
    refine ⟨_, rfl, c, od, rfl, .inl ⟨kvs, hc2, fun D hD => ?_⟩⟩
    refine lc_ex (xs := kvs.map fun kv => kV kv.1) (fun H' i y => ∀ t, fs[i]? = some t → TA K H' y t) (fun H H' i y k h t ht => (h t ht).up k) (ys_keys fun H' e => e _ _ hc2) (by rw [List.length_map]; omega) (by intro _; rfl) ?_ hD ?_
    · intro i x H' Qk hx e2 qk
      rw [List.getElem?_map] at hx
      obtain ⟨kv, hkv⟩ : ∃ kv, kvs[i]? = some kv := by
        cases e : kvs[i]? with
        | none => rw [e] at hx; cases hx
        | some t => exact ⟨t, rfl⟩
      rw [hkv] at hx
      have hx := Option.some.inj hx
      subst hx
      obtain ⟨t, ht, z, rfl, hz⟩ := Pa.get' ia hkv
      obtain ⟨r, nm, rw, fv, tl, er, h1, h2, _⟩ := hz
      obtain ⟨ky, vv⟩ := kv
      simp only at er
      subst er
      have k2 := k12.trans (Tk.ex e2)
      refine ⟨_, rfl, _, rfl, c, .ref r, rfl, .inl ⟨kvs, ky, .inr ⟨od, e2 _ _ hc2⟩, rfl, (valV_nd (ka_nd ka is.nd fg) hkv).symm⟩, ?_⟩
      refine ⟨r, _, 2, fv, rfl, rfl, k2 _ _ h1, at2, qk fv H' (Ex.refl _) fun t' ht' => ?_⟩
      rw [ht] at ht'
      rw [← Option.some.inj ht']
      exact h2.up k2
    · intro H' acc e2 hDa hl hR
      rw [List.length_map] at hl
      have hcf := e2 _ _ hc2
      have hts : TsA K H' acc fs := paired_of (by omega) fun i y t h1 h2 => hR i y h1 t h2
      have Dc : D ≠ c := (ne_new hc2 hD).symm
      have k3 : Tk K H' (upd H' c (.dK kvs)) := Tk.xb hcf rfl Xb.upd
      have eN : Ex H1 (upd H' c (.dK kvs)) := fun b o hb => by
        by_cases e : b = c
        · subst e
          rw [hc] at hb
          rw [upd_same, hb]
        · rw [upd_ne e]
          exact e2 b o (by rw [upd_ne e]; exact hb)
      refine ⟨hcf, ?_⟩
      refine ⟨D, acc, fs, 7, rfl, .inl (.inl (by rw [upd_ne Dc]; exact hDa)), hts.up k3, fg, by decide, fun ws S hws hS => ?_⟩
      have e4 : Ex (upd H' c (.dK kvs)) (upd (upd H' c (.dK kvs)) S (.lst ws)) := Ex.new hS
      refine ⟨S, ws, rfl, .inl ⟨.inl (.inl upd_same), fun p hp => ?_⟩⟩
      have e5 : Ex (upd (upd H' c (.dK kvs)) S (.lst ws)) (upd (upd (upd H' c (.dK kvs)) S (.lst ws)) p (.tup ws)) := Ex.new hp
      have eA := (eN.trans e4).trans e5
      refine q p ws (srt fs) _ (e1.trans (extN_ex eA)) (tabs_ex T1 eA) (.inl (.inl upd_same)) (TsA.up hws (Tk.ex (e4.trans e5))) ⟨fs, is, rfl⟩ ?_
      have := (List.mergeSort_perm fs le').length_eq
      show (fs.mergeSort le').length ≤ 400
      omega

end
end Orl
set_option Elab.async false
set_option linter.all false
set_option maxRecDepth 100000
set_option maxHeartbeats 4000000
namespace Orl
open PySem PySem.Spec PyProof.Rows L2
section
variable {P : Program} {w : World} {K : PySem.W.Frag} {mg : Str → Option Value} {base : Heap} {k : Nat} {f : Addr}
/-! _law_levels, _law_facts -/
def InstB (K : PySem.W.Frag) (q : Addr) (H : Hp) (v : V) (i : Inst) : Prop := ∃ (r : Addr) (fv : V) (tl : Addr), v = .ref r ∧ SqT K H r [.ref tl, fv, .str (key i.2)] ∧ TA K H fv i.2 ∧ H tl = some (.lst (i.1.map fun t => V.str (key t))) ∧ tl ≠ q
theorem InstB.up {q : Addr} {H H' : Hp} {v : V} {i : Inst} (h : InstB K q H v i) (k : Tk K H H') (l : Ls q H H') : InstB K q H' v i := by
  obtain ⟨r, fv, tl, e, h1, h2, h3, h4⟩ := h
  exact ⟨r, fv, tl, e, k _ _ h1, h2.up k, l _ _ h4 h3, h4⟩
abbrev InstsB (K : PySem.W.Frag) (q : Addr) (H : Hp) (vs : List V) (is : List Inst) : Prop := Paired (InstB K q H) vs is
theorem InstsB.up {q : Addr} {H H' : Hp} {vs : List V} {is : List Inst} (h : InstsB K q H vs is) (k : Tk K H H') (l : Ls q H H') : InstsB K q H' vs is := Pa.imp h fun _ _ z => InstB.up z k l
theorem none_left (l : List T) (d : T → Bool) : decide (V.int ((l.filter fun t => !d t).length : Int) = V.int 0) = l.all d := by
  have e : decide (V.int ((l.filter fun t => !d t).length : Int) = V.int 0) = decide ((l.filter fun t => !d t).length = 0) := by
    rw [decide_eq_decide]
    constructor
    · intro h
      have := V.int.inj h
      omega
    · intro h
      rw [h]
      rfl
  rw [e]
  induction l with
  | nil => rfl
  | cons t l ih =>
    cases h : d t with
    | true =>
      rw [List.filter_cons_of_neg (by simp [h]), List.all_cons, h]
      simpa using ih
    | false =>
      rw [List.filter_cons_of_pos (by simp [h]), List.all_cons, h]
      simp
def spLevels (K : PySem.W.Frag) : Pr := fun vs H Q => ∃ (ra ta : Addr) (h d : Nat) (xs : List V) (rs : List Rl) (us : List V) (ts : List T), vs = [.ref ra, .ref ta, .int h] ∧ H ra = some (.lst xs) ∧ H ta = some (.lst us) ∧ RlsA K H xs rs ∧ TsA K H us ts ∧ (∀ r ∈ rs, Good r) ∧ (∀ t ∈ ts, Gr d t) ∧ rs.length ≤ 5 ∧ ts.length ≤ 4 ∧ d ≤ 4 ∧ h ≤ 20 ∧
  ∀ p fl dl ws fs H', Ex H H' → H' p = some (.lst [.ref fl, dl]) → H' fl = some (.lst ws) → TsA K H' ws fs → Is (IsI (rfl' :: rs) ts) h fs → fs.length ≤ 400 → Q (.ref p) H'
abbrev N_law_levels : List Str := ["_law_rules_here", "_law_terms", "_law_height", "_law_instances", "_law_rule_here", "_law_row", "_law_table_here", "_law_fact", "_law_facts_here", "_law_levels_here", "_law_k", "_law_fresh", "_law_instance", "_law_atom_here", "_law_key"]
theorem sc__law_levels : FnScope N_law_levels ["_law_rules_here", "_law_terms", "_law_height"] (defScope s_law_levels) := ⟨rfl, rfl, rfl, by decide +kernel, rfl, by decide +kernel, by decide +kernel⟩
theorem ok__law_levels (F : FnP K "_law_levels" s_law_levels f) (Tx : Top mg) (h_law_choices : Has P w K mg base k "_law_choices" 2 (spChoi K false)) (h_law_variables : Has P w K mg base k "_law_variables" 1 (spVars K)) (h_law_table : Has P w K mg base k "_law_table" 1 (spTable K)) (h_law_replaced : Has P w K mg base k "_law_replaced" 2 (spRepl K 3)) : FnG P w K mg base (k + 1) f 3 (spLevels K) := by
  refine F.ok sc__law_levels (fun _ _ _ _ _ _ us hl => match us, hl with | [_, _, _], _ => rfl) (fun vs H Q h => ?_) (fun cdv A outer s H vs Q hr hG h => ?_)
  · obtain ⟨ra, ta, ht, d, xs, rs, us, ts, rfl, _⟩ := h
    rfl
  · have nd := sc__law_levels.nd
    obtain ⟨ra, ta, h, d, xs, rs, us, ts, rfl, hra, hta, hrs, hts, good, gr, r5, t4, d4, h20, q⟩ := h
    have xl := Pa.len hrs
    refine ⟨_, ((pss_cons (ps_set (i := 3) nd rfl (Or.inl rfl) (pe_lst pa_nil))
  (pss_cons (ps_for PassesOwn.never rfl (pi_list (pe_op op_cat (pe_callTy call_list_of (by rfl) Tx.list (by decide +kernel) (pa_cons (pv 0) pa_nil)) (pe_lst (pa_cons (pe_tup (pa_cons pe_str (pa_cons (pe_tup pa_nil) (pa_cons (pe_tup (pa_cons pe_str (pa_cons pe_int (pa_cons pe_int pa_nil)))) pa_nil)))) pa_nil)))) (pg_name (i := 4) nd rfl (Or.inl rfl))
    (pss_one (ps_for PassesOwn.never rfl (pi_list (pe_own h_law_choices hr hG (by rfl) (pa_cons (pv 1) (pa_cons (pe_callB call_len_seq (by rfl) Tx.len (by decide +kernel) (pa_cons (pe_own h_law_variables hr hG (by rfl) (pa_cons (pe_op op_catA (pe_tup (pa_cons (pe_ix ix_tup (pv 4) pe_int (fun _ _ => rfl)) pa_nil)) (pe_ix ix_tup (pv 4) pe_int (fun _ _ => rfl))) pa_nil)) pa_nil)) pa_nil)))) (pg_name (i := 5) nd rfl (Or.inl rfl))
    (pss_cons (ps_set (i := 6) nd rfl (Or.inr rfl) (pe_own h_law_table hr hG (by rfl) (pa_cons (pv 5) pa_nil)))
  (pss_cons (ps_set (i := 7) nd rfl (Or.inl rfl) (pe_own h_law_replaced hr hG (by rfl) (pa_cons (pe_ix ix_tup (pv 4) pe_int (fun _ _ => rfl)) (pa_cons (pv 6) pa_nil))))
  (pss_one (ps_expr (pe_bm PySem.F.plainAttrs_list PySem.F.slot_list_append PySem.F.type_list_append mt_append (pv 3) (pa_cons (pe_tup (pa_cons (pe_lc (own := [("_law_atom_here", 13)]) (g := gName 13) (tt := tYes) rfl nd (pi_tup (pe_ix ix_tup (pv 4) pe_int (fun _ _ => rfl))) (blkOk_by (own := [("_law_atom_here", 13)]) (N := N_law_levels) (sc := defScope s_law_levels) (by decide +kernel)) (fun _ _ _ _ _ => pg_name (i := 13) nd rfl (Or.inl rfl)) (fun _ _ _ _ _ => pts_nil) (fun _ _ _ _ _ => (pe_callB (r := rRepr K) (call_repr hG (un70 hr)) (by rfl) Tx.repr (by decide +kernel) (pa_cons (pe_own h_law_replaced hr hG (by rfl) (pa_cons (pv 13) (pa_cons (pv 6) pa_nil))) pa_nil)))) (pa_cons (pv 7) (pa_cons (pe_callB (call_repr hG (un70 hr)) (by rfl) Tx.repr (by decide +kernel) (pa_cons (pv 7) pa_nil)) pa_nil)))) pa_nil)))))))))
  (pss_cons (ps_set (i := 8) nd rfl (Or.inl rfl) (pe_lst pa_nil))
  (pss_cons (ps_set (i := 9) nd rfl (Or.inr rfl) pe_dnewK)
  (pss_cons (ps_for PassesOwn.never rfl (pi_range1 (by rfl) Tx.range (pa_cons (pv 2) pa_nil)) (pg_name (i := 10) nd rfl (Or.inl rfl))
    (pss_cons (ps_set (i := 11) nd rfl (Or.inl rfl) (pe_lst pa_nil))
  (pss_cons (ps_for PassesOwn.never rfl (pi_list (pv 3)) (pg_name (i := 12) nd rfl (Or.inl rfl))
    (pss_one (ps_if (PW.pt (pw_and (pt_cmp (pc_dnotin (hu_of hr) (pe_ix ix_tup (pv 12) pe_int (fun _ _ => rfl)) (pv 9))) (pw_and1 (pt_cmpR op_eq (pe_callB call_len_seq (by rfl) Tx.len (by decide +kernel) (pa_cons (pe_lc (own := [("_law_key", 14)]) (g := gName 14) rfl nd (pi_list (pe_ix ix_tup (pv 12) pe_int (fun _ _ => rfl))) (blkOk_by (own := [("_law_key", 14)]) (N := N_law_levels) (sc := defScope s_law_levels) (by decide +kernel)) (fun _ _ _ _ _ => pg_name (i := 14) nd rfl (Or.inl rfl)) (fun _ _ _ _ _ => pts_one (pt_cmp (pc_dnotin (hu_of hr) (pv 14) (pv 9)))) (fun _ _ _ _ _ => (pv 14))) pa_nil)) pe_int (nomark _)))))
    (pss_one (ps_expr (pe_bm PySem.F.plainAttrs_list PySem.F.slot_list_append PySem.F.type_list_append mt_append (pv 11) (pa_cons (pv 12) pa_nil))))
    pss_nil)))
  (pss_one (ps_for PassesOwn.never rfl (pi_list (pv 11)) (pg_name (i := 12) nd rfl (Or.inl rfl))
    (pss_one (ps_if (pt_cmp (pc_dnotin (hu_of hr) (pe_ix ix_tup (pv 12) pe_int (fun _ _ => rfl)) (pv 9)))
    (pss_cons (ps_dput (hu_of hr) (pv 9) (pe_ix ix_tup (pv 12) pe_int (fun _ _ => rfl)) (pe_op op_add (pv 10) pe_int) rfl)
  (pss_one (ps_expr (pe_bm PySem.F.plainAttrs_list PySem.F.slot_list_append PySem.F.type_list_append mt_append (pv 8) (pa_cons (pe_ix ix_tup (pv 12) pe_int (fun _ _ => rfl)) pa_nil)))))
    pss_nil)))))))
  (pss_one (ps_ret (pe_lst (pa_cons (pv 8) (pa_cons (pv 9) pa_nil))))))))))), ?_⟩
    refine ⟨szl (Nat.zero_le _), fun L hL => ?_⟩
    have e1 : Ex H (upd H L (.lst [])) := Ex.new hL
    have good' : ∀ r ∈ rs ++ [rfl'], Good r := fun r hr => by
      rcases List.mem_append.mp hr with h | h
      · exact good r h
      · rw [List.mem_singleton.mp h]
        exact Good.rfl'
    -- the rules and the reflexive one
    refine ⟨_, rfl, ra, xs, rfl, .inl (.inl (.inl (e1 _ _ hra))), fun l hl => ?_⟩
    have e2 : Ex (upd H L (.lst [])) (upd (upd H L (.lst [])) l (.lst xs)) := Ex.new hl
    have hL2 := e2 _ _ (show (upd H L (.lst [])) L = some (.lst []) from upd_same)
    have hl2 : (upd (upd H L (.lst [])) l (.lst xs)) l = some (.lst xs) := upd_same
    have e02 := e1.trans e2
    generalize upd (upd H L (.lst [])) l (.lst xs) = H2 at e02 hL2 hl2 ⊢
    refine ⟨szl (Nat.zero_le _), fun z hz => ⟨szl (show 3 ≤ 100000 by decide), fun y hy => ⟨szl (show 3 ≤ 100000 by decide), fun r hr' => ⟨szl (show 1 ≤ 100000 by decide), fun b hb => ?_⟩⟩⟩⟩
    have e3 : Ex H2 (upd H2 z (.tup [])) := Ex.new hz
    have e4 : Ex (upd H2 z (.tup [])) (upd (upd H2 z (.tup [])) y (.tup [.str "=", .int 0, .int 0])) := Ex.new hy
    have e5 : Ex (upd (upd H2 z (.tup [])) y (.tup [.str "=", .int 0, .int 0])) (upd (upd (upd H2 z (.tup [])) y (.tup [.str "=", .int 0, .int 0])) r (.tup [.str "refl", .ref z, .ref y])) := Ex.new hr'
    have e6 : Ex (upd (upd (upd H2 z (.tup [])) y (.tup [.str "=", .int 0, .int 0])) r (.tup [.str "refl", .ref z, .ref y])) (upd (upd (upd (upd H2 z (.tup [])) y (.tup [.str "=", .int 0, .int 0])) r (.tup [.str "refl", .ref z, .ref y])) b (.lst [.ref r])) := Ex.new hb
    have rr : RlA K (upd (upd (upd (upd H2 z (.tup [])) y (.tup [.str "=", .int 0, .int 0])) r (.tup [.str "refl", .ref z, .ref y])) b (.lst [.ref r])) (.ref r) rfl' :=
      ⟨r, z, "refl", .ref y, [], rfl, Evl.ex_t e6 (.inl (.inl upd_same)), Evl.ex_t ((e4.trans e5).trans e6) (.inl (.inl upd_same)), .nil, TA.app (Evl.ex_t (e5.trans e6) (.inl (.inl upd_same))) (.cons (TA.var 0) (.cons (TA.var 0) .nil))⟩
    have e26 := ((e3.trans e4).trans e5).trans e6
    have hb6 : (upd (upd (upd (upd H2 z (.tup [])) y (.tup [.str "=", .int 0, .int 0])) r (.tup [.str "refl", .ref z, .ref y])) b (.lst [.ref r])) b = some (.lst [.ref r]) := upd_same
    generalize upd (upd (upd (upd H2 z (.tup [])) y (.tup [.str "=", .int 0, .int 0])) r (.tup [.str "refl", .ref z, .ref y])) b (.lst [.ref r]) = H6 at e26 rr hb6 ⊢
    have e06 := e02.trans e26
    refine ⟨l, b, xs, [.ref r], rfl, rfl, e26 _ _ hl2, hb6, szl (by simp; omega), fun p hp => ?_⟩
    have e7 : Ex H6 (upd H6 p (.lst (xs ++ [.ref r]))) := Ex.new hp
    have hp7 : (upd H6 p (.lst (xs ++ [.ref r]))) p = some (.lst (xs ++ [.ref r])) := upd_same
    have e07 := e06.trans e7
    have hL7 := e7 _ _ (e26 _ _ hL2)
    have hrs7 : RlsA K (upd H6 p (.lst (xs ++ [.ref r]))) (xs ++ [.ref r]) (rs ++ [rfl']) := Pa.snoc (RlsA.up hrs (Tk.ex e07)) (rr.up (Tk.ex e7))
    have pL : p ≠ L := (ne_new (e26 _ _ hL2) hp).symm
    generalize upd H6 p (.lst (xs ++ [.ref r])) = H7 at e7 hp7 e07 hL7 hrs7 ⊢
    generalize hrs' : rs ++ [rfl'] = rs' at hrs7 good'
    have rl : rs'.length = rs.length + 1 := by rw [← hrs']; simp
    generalize xs ++ [.ref r] = xs' at hp7 hrs7
    have wl := Pa.len hrs7
    have perm : (rs ++ [rfl']).Perm rs' := by rw [hrs']
    have il := allI_len t4 (rs := rs') fun r hr => (good' r hr).few
    have il2 : rs'.length * 64 ≤ 6 * 64 := Nat.mul_le_mul_right _ (by omega)
    refine ⟨p, rfl, ⟨xs', .inl (.inl hp7)⟩, ?_⟩
    refine for_list (xs := xs') (fun i σ' H' => ∃ (acc : List V) (y4 y5 y6 y7 : Option V), σ' = [some (.ref ra), some (.ref ta), some (.int h), some (.ref L), y4, y5, y6, y7, none, none, none, none, none, none, none] ∧ Ex H H' ∧ Xb L H7 H' ∧ H' L = some (.lst acc) ∧ InstsB K L H' acc (allI (rs'.take i) ts))
      ⟨[], none, none, none, none, rfl, e07, Xb.refl _ _, hL7, by simp [allI]; exact .nil⟩ (fun i σ' H' _ h => by obtain ⟨_, _, _, _, _, _, _, x, _⟩ := h; exact .inl (.inl (x _ _ pL hp7))) ?_ ?_
    · rintro i x σ' H' hx ⟨acc, y4, y5, y6, y7, rfl, e08, x8, hLa, hacc⟩
      obtain ⟨r, hr1, hxr⟩ := Pa.get' hrs7 hx
      have g := good' r (List.mem_of_getElem? hr1)
      have fw : vc r ≤ 3 := g.few
      have k78 : Tk K H7 H' := Tk.xb hL7 rfl x8
      obtain ⟨a, pa, nm, c, ps, rfl, ha1, ha2, ha3, ha4⟩ := hxr.up k78
      have psl := Pa.len ha3
      have pre3 := g.pre
      have fit := g.fit
      have lo := g.lo
      refine ⟨_, rfl, _, rfl, a, _, 2, _, rfl, rfl, ha1, at2, szl (show 1 ≤ 100000 by decide), fun z1 hz1 => ?_⟩
      have f1 : Ex H' (upd H' z1 (.tup [c])) := Ex.new hz1
      refine ⟨_, rfl, a, _, 1, _, rfl, rfl, Evl.ex_t f1 ha1, at1, ?_⟩
      refine cat_cons (K := K) (.inl (.inl upd_same)) (Evl.ex_t f1 ha2) (by omega) fun z2 H9 f2 hz2 => ?_
      have f02 := f1.trans f2
      refine ⟨z2, c :: ps, r.con :: r.prem, rfl, .inr hz2, .cons (ha4.up (Tk.ex f02)) (ha3.up (Tk.ex f02)), fit, by simp; omega, fun nl H10 f3 hnl => ?_⟩
      have f03 := f02.trans f3
      refine ⟨nl, _, rfl, .inl (.inl (.inl hnl)), ?_⟩
      rw [natsV_len]
      refine ⟨vc r, ta, us, ts, rfl, (e08.trans f03) _ _ hta, hts.up (Tk.ex (e08.trans f03)), fw, t4, fun p2 ws2 H11 f4 hp2n hp2 hrows => ?_⟩
      have f04 := f03.trans f4
      have hL11 := f04 _ _ hLa
      have p2L : p2 ≠ L := (ne_new (f03 _ _ hLa) hp2n).symm
      have w2l := Pa.len hrows
      refine ⟨p2, rfl, ⟨ws2, .inl (.inl hp2)⟩, ?_⟩
      have I11 : InstsB K L H11 acc (allI (rs'.take i) ts) := InstsB.up hacc (Tk.ex f04) (Ls.ex f04)
      refine for_list (xs := ws2) (fun j σ2 H12 => ∃ (acc2 : List V) (y5 y6 y7 : Option V), σ2 = [some (.ref ra), some (.ref ta), some (.int h), some (.ref L), some (.ref a), y5, y6, y7, none, none, none, none, none, none, none] ∧ Ex H H12 ∧ Xb L H11 H12 ∧ H12 L = some (.lst acc2) ∧ InstsB K L H12 acc2 (allI (rs'.take i) ts ++ ((rows (vc r) ts).take j).map (inst r)))
        ⟨acc, y5, y6, y7, rfl, e08.trans f04, Xb.refl _ _, hL11, by simpa using I11⟩ (fun j σ2 H12 _ h => by obtain ⟨_, _, _, _, _, _, e, _⟩ := h; exact .inl (.inl (e _ _ p2L hp2))) ?_ ?_
      · rintro j x σ2 H12 hxj ⟨acc2, y5, y6, y7, rfl, e012, x12, hL12, hacc2⟩
        obtain ⟨row, hrow, hrx⟩ := Pa.get' hrows hxj
        have k12 : Tk K H11 H12 := Tk.xb hL11 rfl x12
        have k' : Tk K H' H12 := (Tk.ex f04).trans k12
        obtain ⟨rw, rvs, rfl, hrw, hrv⟩ := hrx.up k12
        obtain ⟨rowl, rowg, cong, preg⟩ := g.row gr (List.mem_of_getElem? hrow)
        have rvl := Pa.len hrv
        have fit' := fit
        have lo' := lo
        simp only [Fits, Los] at fit' lo'
        refine ⟨_, rfl, rw, rvs, rfl, hrw, by omega, fun tb H13 f5 htb => ?_⟩
        have htb' : H13 tb = some (.dK (rowTab rvs row.length)) := by rw [← rvl]; exact htb
        have put : ∀ H'', Ex H13 H'' → ∀ n, n < row.length → TA K H'' (putAt (rowTab rvs row.length) n) (at' row n) := fun H'' e n hn => rowTab_row (hrv.up (Tk.ex (f5.trans e))) hn
        refine ⟨_, rfl, a, _, 2, _, rfl, rfl, (k'.trans (Tk.ex f5)) _ _ ha1, at2, _, rfl, c, r.con, tb, _, at' row, rfl, ha4.up (k'.trans (Tk.ex f5)), fit'.1, htb', fun n hn => put H13 (Ex.refl _) n (by rw [rowl]; exact (lo_iff _).mp lo'.1 n hn), fun fv H14 f6 hfv => ?_⟩
        obtain ⟨fa, rfl⟩ := gr_ref hfv cong
        have f56 := f5.trans f6
        have hL14 := f56 _ _ hL12
        have k14 := k'.trans (Tk.ex f56)
        refine ⟨_, rfl, .inl ⟨rfl, _, .inl (.inl hL14)⟩, ?_⟩
        refine ⟨_, rfl, a, _, 1, _, rfl, rfl, k14 _ _ ha1, at1, pa, rfl, ⟨ps, k14 _ _ ha2⟩, fun tl htl => ?_⟩
        refine lc_ex (K := K) (xs := ps) (fun _ i y => ∀ t, r.prem[i]? = some t → y = .str (key (sub (at' row) t))) (fun H H' i y k h => h) (ys_tup fun H' e => Evl.ex_t e (k14 _ _ ha2)) (by omega) (by intro _; rfl) ?_ htl ?_
        · intro i' x H15 Qk hxi f7 qk
          obtain ⟨t, ht, hxt⟩ := Pa.get' ha3 hxi
          obtain ⟨tg, tlo, tfit⟩ := preg t (List.mem_of_getElem? ht)
          refine ⟨_, rfl, _, rfl, x, t, tb, _, at' row, rfl, hxt.up (k14.trans (Tk.ex f7)), tfit, (f6.trans f7) _ _ htb', fun n hn => put H15 (f6.trans f7) n ((lo_iff _).mp tlo n hn), fun pv H16 f8 hpv => ?_⟩
          obtain ⟨pa', rfl⟩ := gr_ref hpv tg
          refine r_repr hpv ⟨tg.1.up (by omega), tg.2⟩ (qk _ H16 f8 fun t' ht' => ?_)
          rw [ht] at ht'
          rw [← Option.some.inj ht']
        · intro H15 tacc f7 htl15 htlen hR15
          have hL15 := f7 _ _ hL14
          have hfv15 := hfv.up (Tk.ex f7)
          have etexts : tacc = (subs (at' row) r.prem).map fun t => V.str (key t) := by
            rw [subs_map, List.map_map]
            exact map_of (by rw [htlen, psl]) fun i y t h1 h2 => hR15 i y h1 t h2
          have rp9 := rp (t := sub (at' row) r.con) ⟨cong.1.up (by omega), cong.2⟩
          refine ⟨_, rfl, _, rfl, fa, enc (sub (at' row) r.con), rfl, hfv15, rp9.1, rp9.2.1, rp9.2.2.1, rp9.2.2.2, ?_⟩
          refine ⟨szl (show 3 ≤ 100000 by decide), fun it hit => ?_⟩
          have f9 : Ex H15 (upd H15 it (.tup [.ref tl, .ref fa, .str (enc (sub (at' row) r.con)).shown])) := Ex.new hit
          have tlL : tl ≠ L := (ne_new hL14 htl).symm
          have al := Pa.len hacc2
          have al2 := allI_len t4 (rs := rs'.take i) fun r hr => (good' r (List.take_subset _ _ hr)).few
          have al3 : ((rows (vc r) ts).take j).length ≤ 64 := by
            have := rInst_len t4 fw (ts := ts) (r := r)
            unfold rInst at this
            rw [List.length_map] at this
            rw [List.length_take]
            omega
          have al4 : (rs'.take i).length * 64 ≤ 6 * 64 := Nat.mul_le_mul_right _ (by rw [List.length_take]; omega)
          rw [List.length_append, List.length_map] at al
          refine ⟨L, acc2, _, rfl, rfl, f9 _ _ hL15, szs (by omega), ?_⟩
          have hL16 := f9 _ _ hL15
          generalize hH16 : upd H15 it (.tup [.ref tl, .ref fa, .str (enc (sub (at' row) r.con)).shown]) = H16 at f9 hL16 ⊢
          have hit16 : H16 it = some (.tup [.ref tl, .ref fa, .str (enc (sub (at' row) r.con)).shown]) := by rw [← hH16]; exact upd_same
          have k16 : Tk K H16 (upd H16 L (.lst (acc2 ++ [.ref it]))) := Tk.xb hL16 rfl Xb.upd
          have l16 : Ls L H16 (upd H16 L (.lst (acc2 ++ [.ref it]))) := Ls.xb Xb.upd
          have f516 := (f56.trans f7).trans f9
          refine ⟨acc2 ++ [.ref it], _, _, _, rfl, (e012.trans f516).mutN hL, (x12.trans (Xb.ex f516)).mut, upd_same, ?_⟩
          rw [rInst_snoc hrow, ← List.append_assoc]
          refine Pa.snoc (InstsB.up hacc2 ((Tk.ex f516).trans k16) ((Ls.ex f516).trans l16)) ?_
          refine InstB.up ⟨it, _, tl, rfl, .inl (.inl hit16), hfv15.up (Tk.ex f9), ?_, tlL⟩ k16 l16
          rw [f9 _ _ htl15, etexts]
          rfl
      · rintro σ2 H12 ⟨acc2, y5, y6, y7, rfl, e012, x12, hL12, hacc2⟩
        rw [w2l, List.take_length] at hacc2
        refine ⟨acc2, _, _, _, _, rfl, e012, (x8.trans (Xb.ex f04)).trans x12, hL12, ?_⟩
        rw [allI_snoc hr1]
        exact hacc2
    · rintro σ' H8 ⟨ws, y4, y5, y6, y7, rfl, e08, x8, hLa, hws⟩
      rw [wl, List.take_length] at hws
      -- the rounds
      have hP : ∀ {i : Inst}, i ∈ allI rs' ts ↔ IsI (rfl' :: rs) ts i := perm_mem perm
      have gnd : ∀ {i : Inst}, i ∈ allI rs' ts → Gr 8 i.2 ∧ ∀ p ∈ i.1, Gr 8 p := fun hi => by
        obtain ⟨h1, h2⟩ := inst_ground good' gr (mem_allI.mp hi)
        exact ⟨⟨h1.1.up (by omega), h1.2⟩, fun p hp => ⟨(h2 p hp).1.up (by omega), (h2 p hp).2⟩⟩
      have pre3 : ∀ {i : Inst}, i ∈ allI rs' ts → i.1.length ≤ 3 := fun hi => by
        obtain ⟨r, hr, row, _, _, rfl⟩ := mem_allI.mp hi
        simp only [inst, subs_map, List.length_map]
        exact (good' r hr).pre
      have bound : ∀ {fs : List T}, fs.Nodup → (∀ f ∈ fs, ∃ i ∈ allI rs' ts, i.2 = f) → fs.length ≤ 400 := fun nd hm => by
        have := len_sub ((allI rs' ts).map (·.2)) _ nd fun f hf => by
          obtain ⟨i, hi, e⟩ := hm f hf
          exact List.mem_map.mpr ⟨i, hi, e⟩
        rw [List.length_map] at this
        omega
      have hS : Paired (fun v i => InstB K L H8 v i ∧ i ∈ allI rs' ts) ws (allI rs' ts) := by
        have key : ∀ {ws : List V} {is : List Inst}, InstsB K L H8 ws is → (∀ i ∈ is, i ∈ allI rs' ts) → Paired (fun v i => InstB K L H8 v i ∧ i ∈ allI rs' ts) ws is := by
          intro ws is h
          induction h with
          | nil => exact fun _ => .nil
          | cons a b ih => exact fun hm => .cons ⟨a, hm _ (List.mem_cons_self ..)⟩ (ih fun i hi => hm i (List.mem_cons_of_mem _ hi))
        exact key hws fun i hi => hi
      have wsl := Pa.len hS
      refine ⟨szl (Nat.zero_le _), fun FL hFL => ?_⟩
      refine fun DL hDL => ?_
      have g1 : Ex H8 (upd H8 FL (.lst [])) := Ex.new hFL
      have g2 : Ex (upd H8 FL (.lst [])) (upd (upd H8 FL (.lst [])) DL (.dK [])) := Ex.new hDL
      have hDL8 : H8 DL = none := back g1 hDL
      have hFL2 := g2 _ _ (show (upd H8 FL (.lst [])) FL = some (.lst []) from upd_same)
      refine ⟨_, rfl, h, rfl, by omega, by omega, ?_⟩
      refine for_range (lo := 0) (n := (h : Int).toNat) (fun n σ' H' => ∃ (y4 y5 y6 y7 y10 y11 y12 : Option V) (fvs : List V) (kvs : List (Key × V)) (fs : List T), σ' = [some (.ref ra), some (.ref ta), some (.int h), some (.ref L), y4, y5, y6, y7, some (.ref FL), some (.ref DL), y10, y11, y12, none, none] ∧ Ex H8 H' ∧ H' FL = some (.lst fvs) ∧ H' DL = some (.dK kvs) ∧ TsA K H' fvs fs ∧ KA kvs fs ∧ Is (IsI (rfl' :: rs) ts) n fs)
        ⟨_, _, _, _, none, none, none, [], [], [], rfl, g1.trans g2, hFL2, upd_same, .nil, rfl, Is.zero⟩ ?_ ?_
      · rintro n σ' H' hn ⟨y4, y5, y6, y7, y10, y11, y12, fvs, kvs, fs, rfl, e8, hf', hd', hfs, ka, is⟩
        have fI : ∀ f ∈ fs, ∃ i ∈ allI rs' ts, i.2 = f := fun f hf => by
          have := (is.iff f).mp hf
          cases n with
          | zero => exact this.elim
          | succ n =>
            obtain ⟨i, hi, e, _⟩ := this
            exact ⟨i, hP.mpr hi, e⟩
        have fg : ∀ f ∈ fs, Gr 8 f := fun f hf => by
          obtain ⟨i, hi, rfl⟩ := fI f hf
          exact (gnd hi).1
        refine ⟨szl (Nat.zero_le _), fun FR hFR => ?_⟩
        have hFR8 : H8 FR = none := back e8 hFR
        have FRf : FL ≠ FR := ne_new hf' hFR
        have FRd : DL ≠ FR := ne_new hd' hFR
        have i1 : Ex H' (upd H' FR (.lst [])) := Ex.new hFR
        let pick : Inst → Bool := fun i => !decide (i.2 ∈ fs) && usable fs i
        refine ⟨_, rfl, L, rfl, ⟨ws, .inl (.inl ((e8.trans i1) _ _ hLa))⟩, ?_⟩
        refine for_list (xs := ws) (fun i σ2 H2 => ∃ (y12 : Option V) (acc : List V), σ2 = [some (.ref ra), some (.ref ta), some (.int h), some (.ref L), y4, y5, y6, y7, some (.ref FL), some (.ref DL), some (.int (0 + (n : Int))), some (.ref FR), y12, none, none] ∧ Xb FR (upd H' FR (.lst [])) H2 ∧ H2 FR = some (.lst acc) ∧ Paired (fun v i => InstB K L H8 v i ∧ i ∈ allI rs' ts) acc (((allI rs' ts).take i).filter pick))
          ⟨y12, [], rfl, Xb.refl _ _, upd_same, .nil⟩ (fun i σ2 H2 _ h => by obtain ⟨_, _, _, x, _⟩ := h; exact .inl (.inl (Ex.ofXb ((Xb.ex (e8.trans i1)).trans x) hFR8 _ _ hLa))) ?_ ?_
        · rintro i x σ2 H2 hx ⟨y12, acc, rfl, x2, hFR2, hacc⟩
          obtain ⟨z, hz, hxz, hzm⟩ := Pa.get' hS hx
          have e82 : Ex H8 H2 := Ex.ofXb ((Xb.ex (e8.trans i1)).trans x2) hFR8
          have hd2 : H2 DL = some (.dK kvs) := x2 _ _ FRd (i1 _ _ hd')
          obtain ⟨r, fv, tl, rfl, h1, h2, h3, h4⟩ := hxz.up (Tk.ex e82) (Ls.ex e82)
          have gz := gnd hzm
          have fl0 := List.length_filter_le pick ((allI rs' ts).take i)
          rw [List.length_take] at fl0
          have al := Pa.len hacc
          refine ⟨_, rfl, r, _, 2, _, rfl, rfl, h1, at2, _, rfl, DL, _, rfl, DGet.k (k := kf z.2) hd2, _, rfl, ?_⟩
          rw [ka_get gz.1 ka fg]
          rw [take_snoc hz, List.filter_append]
          by_cases hm : z.2 ∈ fs
          · rw [decide_eq_true hm]
            refine iteF ⟨_, acc, rfl, x2, hFR2, ?_⟩
            rw [show [z].filter pick = [] by simp [pick, hm], List.append_nil]
            exact hacc
          · rw [decide_eq_false hm]
            refine iteT ?_
            refine ⟨_, rfl, r, _, 0, _, rfl, rfl, h1, at0, tl, rfl, ⟨_, .inl (.inl h3)⟩, fun D hD => ?_⟩
            have hSz : Paired (fun (v : V) (t : T) => v = .str (key t)) (z.1.map fun t => V.str (key t)) z.1 := by
              generalize z.1 = l
              induction l with
              | nil => exact .nil
              | cons t l ih => exact .cons rfl ih
            refine lc_filt (fun t => !decide (t ∈ fs)) hSz (ys_list fun H'' e => .inl (.inl (e _ _ h3))) (by rw [List.length_map]; have := pre3 hzm; omega) (by intro _; rfl) ?_ (fun x H'' Qk qk => ⟨x, rfl, qk⟩) hD ?_
            · rintro i2 x2 t H3 Qk hx2 ht rfl e3 qk
              refine ⟨_, rfl, _, rfl, DL, _, rfl, DGet.k (k := kf t) (e3 _ _ hd2), _, rfl, ?_⟩
              have := qk H3 (Ex.refl _)
              rw [ka_get (gz.2 t (List.mem_of_getElem? ht)) ka fg]
              exact this
            · intro H3 kacc e3 hDa hk
              have kl := Pa.len hk
              refine ⟨D, kacc, rfl, .inl (.inl (.inl hDa)), rfl, _, rfl, ?_⟩
              rw [kl, none_left]
              have hFR3 := e3 _ _ hFR2
              have x3 : Xb FR (upd H' FR (.lst [])) H3 := x2.trans (Xb.ex e3)
              cases hu : (z.1.all fun t => decide (t ∈ fs)) with
              | false =>
                refine iteF ⟨_, acc, rfl, x3, hFR3, ?_⟩
                rw [show [z].filter pick = [] by simp only [pick, usable, hu, List.filter_cons, Bool.and_false]; rfl, List.append_nil]
                exact hacc
              | true =>
                refine iteT ?_
                refine ⟨_, rfl, .inl ⟨rfl, _, .inl (.inl hFR3)⟩, ?_⟩
                refine ⟨_, rfl, FR, acc, _, rfl, rfl, hFR3, szs (by omega), ?_⟩
                refine ⟨_, acc ++ [.ref r], rfl, x3.mut, upd_same, ?_⟩
                rw [show [z].filter pick = [z] by simp only [pick, usable, hu, hm, List.filter_cons, decide_false, Bool.not_false, Bool.and_true]; rfl]
                exact Pa.snoc hacc ⟨hxz, hzm⟩
        · rintro σ2 H2 ⟨y12, acc, rfl, x2, hFR2, hacc⟩
          rw [wsl, List.take_length] at hacc
          have e82 : Ex H8 H2 := Ex.ofXb ((Xb.ex (e8.trans i1)).trans x2) hFR8
          have hd2 : H2 DL = some (.dK kvs) := x2 _ _ FRd (i1 _ _ hd')
          have hf2 : H2 FL = some (.lst fvs) := x2 _ _ FRf (i1 _ _ hf')
          have k2 : Tk K H' H2 := (Tk.ex i1).trans (Tk.xb (show (upd H' FR (.lst [])) FR = some (.lst []) from upd_same) rfl x2)
          have al := Pa.len hacc
          refine ⟨_, rfl, FR, rfl, ⟨acc, .inl (.inl hFR2)⟩, ?_⟩
          refine for_list (xs := acc) (fun i σ3 H3 => ∃ (y12 : Option V) (fvs' : List V) (kvs' : List (Key × V)) (gs : List T), σ3 = [some (.ref ra), some (.ref ta), some (.int h), some (.ref L), y4, y5, y6, y7, some (.ref FL), some (.ref DL), some (.int (0 + (n : Int))), some (.ref FR), y12, none, none] ∧ Ex H8 H3 ∧ H3 FR = some (.lst acc) ∧ H3 FL = some (.lst fvs') ∧ H3 DL = some (.dK kvs') ∧ TsA K H3 fvs' gs ∧ KA kvs' gs ∧ gs.Nodup ∧ ∀ g, g ∈ gs ↔ g ∈ fs ∨ ∃ i' ∈ ((allI rs' ts).filter pick).take i, i'.2 = g)
            ⟨y12, fvs, kvs, fs, rfl, e82, hFR2, hf2, hd2, hfs.up k2, ka, is.nd, fun g => by simp⟩ (fun i σ3 H3 _ h => by obtain ⟨_, _, _, _, _, _, h, _⟩ := h; exact .inl (.inl h)) ?_ ?_
          · rintro i x σ3 H3 hx ⟨y12, fvs', kvs', gs, rfl, e83, hFR3, hf3, hd3, hgs, ka3, nd3, hg3⟩
            obtain ⟨z, hz, hxz, hzm⟩ := Pa.get' hacc hx
            obtain ⟨r, fv, tl, rfl, h1, h2, h3, h4⟩ := hxz.up (Tk.ex e83) (Ls.ex e83)
            have gI : ∀ g ∈ gs, ∃ i ∈ allI rs' ts, i.2 = g := fun g hg => by
              rcases (hg3 g).mp hg with h | ⟨i', hi', e⟩
              · exact fI g h
              · exact ⟨i', (List.mem_filter.mp (List.take_subset _ _ hi')).1, e⟩
            have gg : ∀ g ∈ gs, Gr 8 g := fun g hg => by
              obtain ⟨i, hi, rfl⟩ := gI g hg
              exact (gnd hi).1
            have gz := (gnd hzm).1
            have gl := bound nd3 gI
            have fl3 := Pa.len hgs
            refine ⟨_, rfl, r, _, 2, _, rfl, rfl, h1, at2, _, rfl, DL, _, rfl, DGet.k (k := kf z.2) hd3, _, rfl, ?_⟩
            rw [ka_get gz ka3 gg]
            by_cases hm : z.2 ∈ gs
            · rw [decide_eq_true hm]
              refine iteF ⟨_, fvs', kvs', gs, rfl, e83, hFR3, hf3, hd3, hgs, ka3, nd3, fun g => ?_⟩
              rw [hg3, take_snoc hz]
              constructor
              · rintro (h | ⟨i', hi', e⟩)
                · exact .inl h
                · exact .inr ⟨i', List.mem_append.mpr (.inl hi'), e⟩
              · rintro (h | ⟨i', hi', e⟩)
                · exact .inl h
                · rcases List.mem_append.mp hi' with h' | h'
                  · exact .inr ⟨i', h', e⟩
                  · rw [List.mem_singleton.mp h'] at e
                    exact (hg3 g).mp (e ▸ hm)
            · rw [decide_eq_false hm]
              obtain ⟨ep, ka4⟩ := ka_put (v := .int (0 + (n : Int) + 1)) gz ka3 gg hm
              refine iteT ?_
              refine ⟨_, rfl, _, _, rfl, rfl, _, rfl, _, rfl, r, _, 2, _, rfl, rfl, h1, at2, DL, _, rfl, DPut.k (k := kf z.2) hd3 (szs (by rw [ka3.len]; omega)), ?_⟩
              have k4 : Tk K H3 (upd H3 DL (.dK (putK kvs' (kf z.2) (.int (0 + (n : Int) + 1))))) := Tk.xb hd3 rfl Xb.upd
              have FLD : FL ≠ DL := by
                rintro rfl
                rw [hf3] at hd3
                cases hd3
              have e84 : Ex H8 (upd H3 DL (.dK (putK kvs' (kf z.2) (.int (0 + (n : Int) + 1))))) := e83.mutN hDL8
              have hd4 : (upd H3 DL (.dK (putK kvs' (kf z.2) (.int (0 + (n : Int) + 1))))) DL = some (.dK (kvs' ++ [(kf z.2, .int (0 + (n : Int) + 1))])) := by rw [upd_same, ep]
              have hf4 : (upd H3 DL (.dK (putK kvs' (kf z.2) (.int (0 + (n : Int) + 1))))) FL = some (.lst fvs') := by rw [upd_ne FLD]; exact hf3
              have hFR4 : (upd H3 DL (.dK (putK kvs' (kf z.2) (.int (0 + (n : Int) + 1))))) FR = some (.lst acc) := by rw [upd_ne FRd.symm]; exact hFR3
              have h1' := k4 _ _ h1
              have h2' := h2.up k4
              have hgs' := hgs.up k4
              generalize upd H3 DL (.dK (putK kvs' (kf z.2) (.int (0 + (n : Int) + 1)))) = H4 at e84 hd4 hf4 hFR4 h1' h2' hgs' ⊢
              refine ⟨_, rfl, .inl ⟨rfl, _, .inl (.inl hf4)⟩, ?_⟩
              refine ⟨_, rfl, r, _, 1, _, rfl, rfl, h1', at1, FL, fvs', _, rfl, rfl, hf4, szs (by omega), ?_⟩
              have k5 : Tk K H4 (upd H4 FL (.lst (fvs' ++ [fv]))) := Tk.xb hf4 rfl Xb.upd
              refine ⟨_, fvs' ++ [fv], _, gs ++ [z.2], rfl, e84.mutN hFL, by rw [upd_ne FRf.symm]; exact hFR4, upd_same, by rw [upd_ne FLD.symm]; exact hd4, Pa.snoc (hgs'.up k5) (h2'.up k5), ka4, ?_, fun g => ?_⟩
              · have := nodup_enter (f := z.2) nd3
                unfold enter at this
                rw [if_neg hm] at this
                exact this
              · rw [List.mem_append, List.mem_singleton, hg3, take_snoc hz]
                constructor
                · rintro ((h | ⟨i', hi', e⟩) | e)
                  · exact .inl h
                  · exact .inr ⟨i', List.mem_append.mpr (.inl hi'), e⟩
                  · exact .inr ⟨z, List.mem_append.mpr (.inr (List.mem_singleton.mpr rfl)), e.symm⟩
                · rintro (h | ⟨i', hi', e⟩)
                  · exact .inl (.inl h)
                  · rcases List.mem_append.mp hi' with h' | h'
                    · exact .inl (.inr ⟨i', h', e⟩)
                    · rw [List.mem_singleton.mp h'] at e
                      exact .inr e.symm
          · rintro σ3 H3 ⟨y12, fvs', kvs', gs, rfl, e83, hFR3, hf3, hd3, hgs, ka3, nd3, hg3⟩
            rw [al, List.take_length] at hg3
            refine ⟨_, _, _, _, _, _, _, fvs', kvs', gs, rfl, e83, hf3, hd3, hgs, ka3, ?_⟩
            refine is.round nd3 hg3 (fun i hi => ?_) fun i hi hpr => ?_
            · obtain ⟨h1, h2⟩ := List.mem_filter.mp hi
              have h3 : usable fs i = true := by
                have : (!decide (i.2 ∈ fs) && usable fs i) = true := h2
                rw [Bool.and_eq_true] at this
                exact this.2
              refine ⟨hP.mp h1, fun p hp => ?_⟩
              exact of_decide_eq_true (List.all_eq_true.mp h3 p hp)
            · by_cases hm : i.2 ∈ fs
              · exact .inl hm
              · refine .inr (List.mem_filter.mpr ⟨hP.mpr hi, ?_⟩)
                show (!decide (i.2 ∈ fs) && usable fs i) = true
                rw [decide_eq_false hm, show usable fs i = true from List.all_eq_true.mpr fun p hp => decide_eq_true (hpr p hp)]
                rfl
      · rintro σ' H' ⟨y4, y5, y6, y7, y10, y11, y12, fvs, kvs, fs, rfl, e8, hf', hd', hfs, ka, is⟩
        rw [Int.toNat_natCast] at is
        refine ⟨_, rfl, _, rfl, szl (show 2 ≤ 100000 by decide), fun o ho => ?_⟩
        have e9 : Ex H' (upd H' o (.lst [.ref FL, .ref DL])) := Ex.new ho
        refine q o FL (.ref DL) fvs fs _ ((e08.trans e8).trans e9) upd_same (e9 _ _ hf') (hfs.up (Tk.ex e9)) is (bound is.nd fun f hf => ?_)
        have := (is.iff f).mp hf
        cases h with
        | zero => exact this.elim
        | succ n =>
          obtain ⟨i, hi, e, _⟩ := this
          exact ⟨i, hP.mpr hi, e⟩
def spFactsL (K : PySem.W.Frag) : Pr := fun vs H Q => ∃ (ra ta : Addr) (h d : Nat) (xs : List V) (rs : List Rl) (us : List V) (ts : List T), vs = [.ref ra, .ref ta, .int h] ∧ H ra = some (.lst xs) ∧ H ta = some (.lst us) ∧ RlsA K H xs rs ∧ TsA K H us ts ∧ (∀ r ∈ rs, Good r) ∧ (∀ t ∈ ts, Gr d t) ∧ rs.length ≤ 5 ∧ ts.length ≤ 4 ∧ d ≤ 4 ∧ h ≤ 20 ∧
  ∀ fl ws fs H', Ex H H' → H' fl = some (.lst ws) → TsA K H' ws fs → Is (IsI (rfl' :: rs) ts) h fs → fs.length ≤ 400 → Q (.ref fl) H'
abbrev N_law_facts : List Str := ["_law_rules_here", "_law_terms", "_law_height"]
theorem sc__law_facts : FnScope N_law_facts ["_law_rules_here", "_law_terms", "_law_height"] (defScope s_law_facts) := ⟨rfl, rfl, rfl, by decide +kernel, rfl, by decide +kernel, by decide +kernel⟩
theorem ok__law_facts (F : FnP K "_law_facts" s_law_facts f) (Tx : Top mg) (h_law_levels : Has P w K mg base k "_law_levels" 3 (spLevels K)) : FnG P w K mg base (k + 1) f 3 (spFactsL K) := by
  refine F.ok sc__law_facts (fun _ _ _ _ _ _ us hl => match us, hl with | [_, _, _], _ => rfl) (fun vs H Q h => ?_) (fun cdv A outer s H vs Q hr hG h => ?_)
  · obtain ⟨ra, ta, ht, d, xs, rs, us, ts, rfl, _⟩ := h
    rfl
  · have nd := sc__law_facts.nd
    obtain ⟨ra, ta, h, d, xs, rs, us, ts, rfl, hra, hta, hrs, hts, good, gr, r5, t4, d4, h20, q⟩ := h
    refine ⟨_, ((pss_one (ps_ret (pe_ix ix_list (pe_own h_law_levels hr hG (by rfl) (pa_cons (pv 0) (pa_cons (pv 1) (pa_cons (pv 2) pa_nil)))) pe_int (fun _ _ => rfl))))), ?_⟩
    refine ⟨_, rfl, _, rfl, _, rfl, ra, ta, h, d, xs, rs, us, ts, rfl, hra, hta, hrs, hts, good, gr, r5, t4, d4, h20, fun p fl dl ws fs H' e h1 h2 h3 h4 h5 => ?_⟩
    exact ⟨p, _, 0, .ref fl, rfl, rfl, .inl (.inl h1), at0, q fl ws fs H' e h2 h3 h4 h5⟩

end
end Orl
set_option Elab.async false
set_option linter.all false
set_option maxRecDepth 100000
set_option maxHeartbeats 4000000
namespace Orl
open PySem PySem.Spec PyProof.Rows L2
section
variable {P : Program} {w : World} {K : PySem.W.Frag} {mg : Str → Option Value} {base : Heap} {k : Nat} {f : Addr}
/-! _law_alike -/
mutual
theorem txt_len3 : ∀ (t : T) (d : Nat), Fit t d → (txt t).length + 15 ≤ 15 * 3 ^ d
  | .v _, d, _ => by
    have : 1 ≤ 3 ^ d := Nat.one_le_pow _ _ (by decide)
    simp only [txt, List.length_nil]
    omega
  | .a f ts, d, h => by
    simp only [Fit] at h
    obtain ⟨h0, hn, hl, hf⟩ := h
    have e := txts_len3 ts (d - 1) hf
    obtain ⟨k, rfl⟩ : ∃ k, d = k + 1 := ⟨d - 1, by omega⟩
    have : 1 ≤ 3 ^ k := Nat.one_le_pow _ _ (by decide)
    have q := hn.1
    simp only [Nat.add_sub_cancel] at e
    rw [txt, Nat.pow_succ]
    by_cases h0 : ts.length = 0
    · rw [if_pos h0]
      simp only [List.length_cons, List.length_append, List.length_nil]
      omega
    · rw [if_neg h0]
      simp only [List.length_cons, List.length_append]
      have : ts.length = 1 ∨ ts.length = 2 ∨ ts.length = 3 := by omega
      rcases this with h | h | h <;> rw [h] at e <;> omega
theorem txts_len3 : ∀ (ts : List T) (d : Nat), Fits ts d → (txts ts).length + ts.length * 13 ≤ ts.length * (15 * 3 ^ d) + 1
  | [], d, _ => by simp [txts]
  | t :: ts, d, h => by
    simp only [Fits] at h
    have e1 := txt_len3 t d h.1
    have e2 := txts_len3 ts d h.2
    rw [txts]
    simp only [List.length_cons, List.length_append]
    rw [Nat.add_mul, Nat.add_mul]
    omega
end
theorem shown_tup {L : List T} (hg : ∀ t ∈ L, Gr 7 t) (hl : L.length ≤ 400) : (PyData.shown (.tuple (L.map enc))).length ≤ sizeLine := by
  have hf : Fits L 7 := fits_iff.mpr fun t ht => (hg t ht).1
  have ho : Los L 0 := los_iff.mpr fun t ht => (hg t ht).2
  have e : (PyData.shown (.tuple (L.map enc))).length = (PyData.shown (.tuple (L.map enc))).cps.toList.length := by simp [Str.length]
  rw [e, ← encs_map]
  show (tupleText (PyData.shownAll (encs L))).cps.toList.length ≤ sizeLine
  unfold tupleText
  rw [app_l, app_l, List.length_append, List.length_append]
  have e3 := txts_len3 L 7 hf
  have c : 3 ^ 7 = 2187 := by decide
  have m : L.length * (15 * 3 ^ 7) ≤ 400 * (15 * 3 ^ 7) := Nat.mul_le_mul_right _ hl
  have e4 : (Str.join ", " (PyData.shownAll (encs L))).cps.toList.length ≤ (txts L).length := by
    by_cases h : L = []
    · subst h
      simp [encs, PyData.shownAll]
      show (Str.join ", " []).cps.size ≤ _
      exact Nat.zero_le _
    · have j := congrArg List.length (joins_txt L 7 hf ho h)
      simp only [List.length_cons, List.length_append, List.length_nil] at j
      omega
  have e5 : (("(" : Str)).cps.toList.length = 1 := rfl
  have e6 : ((if (PyData.shownAll (encs L)).length == 1 then ",)" else ")" : String) : Str).cps.toList.length ≤ 2 := by
    split
    · exact Nat.le_refl 2
    · exact show 1 ≤ 2 by decide
  rw [line]
  omega
theorem tup_show {L : List T} (hg : ∀ t ∈ L, Gr 7 t) : (PyData.tuple (L.map enc)).showable = true ∧ (PyData.tuple (L.map enc)).hasDict = false ∧ (PyData.tuple (L.map enc)).depth ≤ 64 ∧ SeqAt.shaped (.tuple (L.map enc)) = true := by
  have hf : Fits L 7 := fits_iff.mpr fun t ht => (hg t ht).1
  have ho : Los L 0 := los_iff.mpr fun t ht => (hg t ht).2
  obtain ⟨h1, h2⟩ := encs_show L ho
  have h3 := encs_depth L 7 hf
  have h4 := encs_lay L 7 hf
  rw [← encs_map]
  have d8 : (PyData.tuple (encs L)).depth ≤ 64 := by
    simp only [PyData.depth]
    omega
  refine ⟨by simpa [PyData.showable] using h1, by simpa [PyData.hasDict] using h2, d8, ?_⟩
  unfold SeqAt.shaped
  rw [decide_eq_true d8]
  simp [PyData.canLay0, h4]
def spAlike (K : PySem.W.Frag) : Pr := fun vs H Q => ∃ (a b : Addr) (xs ys : List V) (L : List T), vs = [.ref a, .ref b] ∧ SqT K H a xs ∧ SqT K H b ys ∧ TsA K H xs L ∧ TsA K H ys L ∧ (∀ t ∈ L, Gr 7 t) ∧ L.length ≤ 400 ∧ Q (.bl true) H
abbrev N_law_alike : List Str := ["_law_told", "_law_due"]
theorem sc__law_alike : FnScope N_law_alike ["_law_told", "_law_due"] (defScope s_law_alike) := ⟨rfl, rfl, rfl, by decide +kernel, rfl, by decide +kernel, by decide +kernel⟩
theorem ok__law_alike (F : FnP K "_law_alike" s_law_alike f) (Tx : Top mg) : FnG P w K mg base (k + 1) f 2 (spAlike K) := by
  refine F.ok sc__law_alike (fun _ _ _ _ _ _ us hl => match us, hl with | [_, _], _ => rfl) (fun vs H Q h => ?_) (fun cdv A outer s H vs Q hr hG h => ?_)
  · obtain ⟨a, b, xs, ys, L, rfl, _⟩ := h
    rfl
  · have nd := sc__law_alike.nd
    obtain ⟨a, b, xs, ys, L, rfl, ha, hb, hx, hy, hg, hl, q⟩ := h
    refine ⟨_, ((pss_cons (ps_if (PW.pt (pw_and (pt_val (pe_callB call_isi (by rfl) Tx.isinstance (by decide +kernel) (pa_cons (pv 1) (pa_cons (pe_bltn (v := .ty "tuple") (by rfl) Tx.tuple boot_tuple rfl) pa_nil)))) (pw_and1 (pt_not (pt_val (pe_callB call_isi (by rfl) Tx.isinstance (by decide +kernel) (pa_cons (pv 0) (pa_cons (pe_bltn (v := .ty "tuple") (by rfl) Tx.tuple boot_tuple rfl) pa_nil))))))))
    (pss_one (ps_ret pe_bl))
    pss_nil)
  (pss_cons (ps_if (PW.pt (pw_and (pt_val (pe_callB call_isi (by rfl) Tx.isinstance (by decide +kernel) (pa_cons (pv 1) (pa_cons (pe_bltn (v := .ty "int") (by rfl) Tx.int boot_int rfl) pa_nil)))) (pw_and1 (pt_not (pt_val (pe_callB call_isi (by rfl) Tx.isinstance (by decide +kernel) (pa_cons (pv 0) (pa_cons (pe_bltn (v := .ty "int") (by rfl) Tx.int boot_int rfl) pa_nil))))))))
    (pss_one (ps_ret pe_bl))
    pss_nil)
  (pss_one (ps_ret (pe_and (pe_cmpR (op_eqD hr.units) (pv 0) (pv 1) (nomark _)) (pe_one (pe_cmpR op_eq (pe_callB (call_repr hG (un70 hr)) (by rfl) Tx.repr (by decide +kernel) (pa_cons (pv 0) pa_nil)) (pe_callB (call_repr hG (un70 hr)) (by rfl) Tx.repr (by decide +kernel) (pa_cons (pv 1) pa_nil)) (nomark _))))))))), ?_⟩
    obtain ⟨t1, t2, t3, t4⟩ := tup_show hg
    have t5 := shown_tup hg hl
    have da := dp_tuple ha hx
    have db := dp_tuple hb hy
    refine ⟨_, rfl, _, _, _, _, true, rfl, .ty "tuple", tyx_tup hb, kit_ty (by decide +kernel), true, rfl, iteT ?_⟩
    refine ⟨_, rfl, _, _, _, _, true, rfl, .ty "tuple", tyx_tup ha, kit_ty (by decide +kernel), true, rfl, iteF ?_⟩
    refine ⟨_, rfl, _, _, _, _, false, rfl, .ty "int", tyx_tup hb, kit_ty (by decide +kernel), false, rfl, iteF ?_⟩
    refine iteF ?_
    refine ⟨_, rfl, _, rfl, _, _, da, db, t4, t4, _, rfl, ?_⟩
    rw [show PyData.eqv (.tuple (L.map enc)) (.tuple (L.map enc)) = true by
      have := (eqvs_iff L L).mpr rfl
      rw [encs_map] at this
      simpa [PyData.eqv] using this]
    refine iteT ?_
    refine ⟨_, rfl, a, _, rfl, da, t1, t2, t3, t5, _, rfl, b, _, rfl, db, t1, t2, t3, t5, rfl, ?_⟩
    rw [decide_eq_true rfl]
    exact q

end
end Orl
set_option Elab.async false
set_option linter.all false
set_option maxRecDepth 100000
set_option maxHeartbeats 4000000
namespace Orl
open PySem PySem.Spec PyProof.Rows L2
section
variable {P : Program} {w : World} {K : PySem.W.Frag} {mg : Str → Option Value} {base : Heap} {k : Nat} {f : Addr}
/-! what the law holds while it walks -/
/-- all but the tape and the tables stays -/
structure Kp (P p l : Addr) (H H' : Hp) : Prop where
  x : ∀ b o, b ≠ p → H b = some o → (∀ ps, o ≠ .tbl ps) → H' b = some o
  t : Tape H' p l
  tab : LamX.Tabs (TbT P) H'
section
variable {TP p l q : Addr} {H H1 H2 : Hp}
theorem Kp.refl (t : Tape H p l) (tab : LamX.Tabs (TbT TP) H) : Kp TP p l H H := ⟨fun _ _ _ h _ => h, t, tab⟩
theorem Kp.trans (a : Kp TP p l H H1) (b : Kp TP p l H1 H2) : Kp TP p l H H2 := ⟨fun c o n h nt => b.x c o n (a.x c o n h nt) nt, b.t, b.tab⟩
theorem Kp.dr (k : Kp TP p l H H1) (d : Dr p l H1 H2) : Kp TP p l H H2 := by
  obtain ⟨⟨xs, h⟩, _⟩ := k.t.lst
  exact ⟨fun c o n h nt => d.x c o n (k.x c o n h nt), d.t, tabs_xb k.tab h d.x⟩
theorem Kp.ex (k : Kp TP p l H H1) (e : Ex H1 H2) : Kp TP p l H H2 := ⟨fun c o n h nt => e c o (k.x c o n h nt), k.t.ex e, tabs_ex k.tab e⟩
theorem Kp.new {o : HO} (k : Kp TP p l H H1) (h : H1 q = none) : Kp TP p l H (upd H1 q o) := k.ex (Ex.new h)
theorem tape_ext (t : Tape H p l) (e : LamX.ExtN H H1) : Tape H1 p l := by
  obtain ⟨ns, pl, big, tot, h1, h2, h3⟩ := t
  exact ⟨ns, pl, big, tot, e _ _ h1 (fun _ z => by cases z), e _ _ h2 (fun _ z => by cases z), h3⟩
theorem Kp.extN (k : Kp TP p l H H1) (e : LamX.ExtN H1 H2) (tab : LamX.Tabs (TbT TP) H2) : Kp TP p l H H2 := ⟨fun c o n h nt => e c o (k.x c o n h nt) nt, tape_ext k.t e, tab⟩
theorem Kp.lst {xs : List V} (k : Kp TP p l H H1) (n : q ≠ p) (h : H q = some (.lst xs)) : H1 q = some (.lst xs) := k.x _ _ n h (fun _ z => by cases z)
theorem Kp.tk (k : Kp TP p l H H1) (t : Tape H p l) : Tk K H H1 := fun a xs h => by
  obtain ⟨⟨ys, hp⟩, _⟩ := t.lst
  have np : ∀ o, H a = some o → (∀ ys, o ≠ .lst ys) → a ≠ p := fun o ho n z => by
    subst z
    rw [hp] at ho
    exact n ys (Option.some.inj ho).symm
  rcases h with (h | ⟨u, h⟩) | h
  · exact .inl (.inl (k.x a _ (np _ h (fun _ z => by cases z)) h (fun _ z => by cases z)))
  · exact .inl (.inr ⟨u, k.x a _ (np _ h (fun _ z => by cases z)) h (fun _ z => by cases z)⟩)
  · exact .inr h
theorem Kp.mut {xs ys : List V} (k : Kp TP p l H H1) (h : H q = none) (n : Off q p l) (hq : H1 q = some (.lst xs)) : Kp TP p l H (upd H1 q (.lst ys)) :=
  ⟨fun c o nc hc nt => by rw [upd_ne (ne_of_none hc h)]; exact k.x c o nc hc nt, k.t.mut n, tabs_xb k.tab hq Xb.upd⟩
end
structure WD (K : PySem.W.Frag) (TP p l ru te due : Addr) (rvs : List V) (rs : List Rl) (fv : V) (rf : Rl) (tvs : List V) (ts : List T) (dvs : List V) (L : List T) (H : Hp) : Prop where
  t : Tape H p l
  tab : LamX.Tabs (TbT TP) H
  ruh : H ru = some (.lst rvs)
  rup : ru ≠ p
  rr : RlsA K H rvs rs
  fu : RlA K H fv rf
  teh : H te = some (.lst tvs)
  tep : te ≠ p
  tt : TsA K H tvs ts
  du : SqT K H due dvs
  dd : TsA K H dvs L
section
variable {TP p l ru te due : Addr} {rvs : List V} {rs : List Rl} {fv : V} {rf : Rl} {tvs : List V} {ts : List T} {dvs : List V} {L : List T} {H H1 : Hp}
theorem WD.up (w : WD K TP p l ru te due rvs rs fv rf tvs ts dvs L H) (k : Kp TP p l H H1) : WD K TP p l ru te due rvs rs fv rf tvs ts dvs L H1 :=
  have tk := k.tk (K := K) w.t
  ⟨k.t, k.tab, k.lst w.rup w.ruh, w.rup, RlsA.up w.rr tk, w.fu.up tk, k.lst w.tep w.teh, w.tep, w.tt.up tk, tk _ _ w.du, w.dd.up tk⟩
theorem WD.refl (w : WD K TP p l ru te due rvs rs fv rf tvs ts dvs L H) : Kp TP p l H H := .refl w.t w.tab
end
/-- the renaming of the variables -/
def g3 : Nat → Nat := fun n => if n = 0 then 65535 else if n = 1 then 3 else if n = 2 then 0 else n
def tab3 : List (Key × V) := [(Sum.inl 0, .int 65535), (Sum.inl 1, .int 3), (Sum.inl 2, .int 0)]
theorem tab3_at {n : Nat} (h : n < 3) : putAt tab3 n = .int ((g3 n : Nat) : Int) := by
  have : n = 0 ∨ n = 1 ∨ n = 2 := by omega
  rcases this with rfl | rfl | rfl <;> rfl
theorem Good.lo3 {r : Rl} (g : Good r) : Los (r.con :: r.prem) 3 := Los.up g.lo g.few
theorem ren3_fits {ts : List T} (h : Fits ts 3) : Fits (subs (ren g3) ts) 3 := by
  rw [subs_map]
  refine fits_iff.mpr fun t ht => ?_
  obtain ⟨u, hu, rfl⟩ := List.mem_map.mp ht
  exact fit_sub (e := 0) u (fits_iff.mp h u hu) (fun _ _ => by simp [ren, Fit]) 3 (by omega)
theorem numbR_ren {r : Rl} (g : Good r) : numbR ⟨subs (ren g3) r.prem, sub (ren g3) r.con⟩ = r := by
  have e : numb (subs (ren g3) (r.con :: r.prem)) = r.con :: r.prem := by
    rw [numb_ren, g.num]
    intro a b ha hb e
    have h1 := (los_occ _).mp g.lo3 a ha
    have h2 := (los_occ _).mp g.lo3 b hb
    have h3 : a = 0 ∨ a = 1 ∨ a = 2 := by omega
    have h4 : b = 0 ∨ b = 1 ∨ b = 2 := by omega
    rcases h3 with rfl | rfl | rfl <;> rcases h4 with rfl | rfl | rfl <;> first | rfl | (simp [g3] at e)
  simp only [subs] at e
  unfold numbR
  simp only
  rw [e]
  rfl
theorem cat_mem {α : Type} {xs : List α} {n : Nat} {x : α} : x ∈ xs.drop n ++ xs.take n ↔ x ∈ xs := by
  rw [List.mem_append, or_comm, ← List.mem_append, List.take_append_drop]
theorem tl_len {α : Type} {xs : List α} {n : Nat} : (xs.drop n ++ xs.take n).length = xs.length := by
  rw [List.length_append, List.length_drop, List.length_take]
  omega

end
end Orl
set_option Elab.async false
set_option linter.all false
set_option maxRecDepth 100000
set_option maxHeartbeats 4000000
namespace Orl
open PySem PySem.Spec PyProof.Rows L2
section
variable {P : Program} {w : World} {K : PySem.W.Frag} {mg : Str → Option Value} {base : Heap} {k : Nat} {f : Addr}
/-! law -/
theorem facts_gr {rs : List Rl} {ts : List T} {h d : Nat} {L : List T} (F : Facts rs ts h L) (good : ∀ r ∈ rs, Good r) (gr : ∀ t ∈ ts, Gr d t) (d4 : d ≤ 4) : ∀ f ∈ L, Gr 7 f := fun f hf => by
  have := Fc.ground good gr (F.mem.mp hf)
  exact ⟨this.1.up (by omega), this.2⟩
def spLaw (K : PySem.W.Frag) (TP : Addr) : Pr := fun vs H Q => ∃ (a : Addr) (ns : List Int), vs = [.ref a] ∧ SqL K H a (ns.map V.int) ∧ LamX.Tabs (TbT TP) H ∧ ∀ H', Q (.bl true) H'
abbrev Nlaw : List Str := ["_law_script", "_law_tape_here", "_law_symbols_here", "_law_relations_here", "_law_many", "_law_rules_here", "_law_further", "_law_terms", "_law_height", "_law_due", "_law_told", "_law_names_here", "_law_other", "_law_k", "_law_table_here", "_law_premises", "_law_turn", "_law_place", "_law_greater", "_law_facts_here", "_law_atom_here", "_law_fact"]
theorem sc_law : FnScope Nlaw ["_law_script"] (defScope s_law) := ⟨rfl, rfl, rfl, by decide +kernel, rfl, by decide +kernel, by decide +kernel⟩
theorem ok_law {TP : Addr} (F : FnP K "law" s_law f) (Tx : Top mg) (h_law_tape : Has P w K mg base k "_law_tape" 1 (spTape K)) (h_law_draw : Has P w K mg base k "_law_draw" 2 spDraw) (h_law_symbols : Has P w K mg base k "_law_symbols" 2 (spSymbols K)) (h_law_relations : Has P w K mg base k "_law_relations" 2 (spRelations K))
    (h_law_rules : Has P w K mg base k "_law_rules" 4 (spRules K)) (h_law_universe : Has P w K mg base k "_law_universe" 3 (spUniv K)) (h_law_facts : Has P w K mg base k "_law_facts" 3 (spFactsL K)) (h_facts_within : Has P w K mg base k "facts_within" 3 (spWithin K TP)) (h_law_alike : Has P w K mg base k "_law_alike" 2 (spAlike K))
    (h_law_names : Has P w K mg base k "_law_names" 2 spNames) (h_law_replaced : Has P w K mg base k "_law_replaced" 2 (spRepl K 3)) (h_numbered_rule : Has P w K mg base k "numbered_rule" 1 (spNumR K)) : FnG P w K mg base (k + 1) f 1 (spLaw K TP) := by
  refine F.ok sc_law (fun _ _ _ _ _ _ us hl => match us, hl with | [_], _ => rfl) (fun vs H Q h => ?_) (fun cdv A outer s H vs Q hr hG h => ?_)
  · obtain ⟨a, ns, rfl, _⟩ := h
    rfl
  · have nd := sc_law.nd
    obtain ⟨a, ns, rfl, hS, hTab, q⟩ := h
    refine ⟨_, ((pss_cons (ps_set (i := 1) nd rfl (Or.inl rfl) (pe_own h_law_tape hr hG (by rfl) (pa_cons (pv 0) pa_nil)))
  (pss_cons (ps_set (i := 2) nd rfl (Or.inl rfl) (pe_own h_law_symbols hr hG (by rfl) (pa_cons (pv 1) (pa_cons (pe_op op_add pe_int (pe_own h_law_draw hr hG (by rfl) (pa_cons (pv 1) (pa_cons pe_int pa_nil)))) pa_nil))))
  (pss_cons (ps_set (i := 3) nd rfl (Or.inl rfl) (pe_own h_law_relations hr hG (by rfl) (pa_cons (pv 1) (pa_cons (pe_op op_add pe_int (pe_own h_law_draw hr hG (by rfl) (pa_cons (pv 1) (pa_cons pe_int pa_nil)))) pa_nil))))
  (pss_cons (ps_set (i := 4) nd rfl (Or.inl rfl) (pe_op op_add pe_int (pe_own h_law_draw hr hG (by rfl) (pa_cons (pv 1) (pa_cons pe_int pa_nil)))))
  (pss_cons (ps_set (i := 5) nd rfl (Or.inl rfl) (pe_own h_law_rules hr hG (by rfl) (pa_cons (pv 1) (pa_cons (pv 3) (pa_cons (pv 2) (pa_cons (pe_op op_add (pv 4) pe_int) pa_nil))))))
  (pss_cons (ps_set (i := 6) nd rfl (Or.inl rfl) (pe_bm PySem.F.plainAttrs_list PySem.F.slot_list_pop PySem.F.type_list_pop mt_popAt (pv 5) (pa_cons (pe_op op_add pe_int (pe_own h_law_draw hr hG (by rfl) (pa_cons (pv 1) (pa_cons (pv 4) pa_nil)))) pa_nil)))
  (pss_cons (ps_set (i := 7) nd rfl (Or.inl rfl) (pe_own h_law_universe hr hG (by rfl) (pa_cons (pv 1) (pa_cons (pv 2) (pa_cons (pe_op op_add pe_int (pe_own h_law_draw hr hG (by rfl) (pa_cons (pv 1) (pa_cons pe_int pa_nil)))) pa_nil)))))
  (pss_cons (ps_set (i := 8) nd rfl (Or.inl rfl) (pe_own h_law_draw hr hG (by rfl) (pa_cons (pv 1) (pa_cons pe_int pa_nil))))
  (pss_cons (ps_set (i := 9) nd rfl (Or.inl rfl) (pe_callTy call_tuple_of (by rfl) Tx.tuple (by decide +kernel) (pa_cons (pe_callB (call_sortedT (un70 hr)) (by rfl) Tx.sorted (by decide +kernel) (pa_cons (pe_own h_law_facts hr hG (by rfl) (pa_cons (pv 5) (pa_cons (pv 7) (pa_cons (pv 8) pa_nil)))) pa_nil)) pa_nil)))
  (pss_cons (ps_set (i := 10) nd rfl (Or.inl rfl) (pe_own h_facts_within hr hG (by rfl) (pa_cons (pe_callTy call_tuple_of (by rfl) Tx.tuple (by decide +kernel) (pa_cons (pv 5) pa_nil)) (pa_cons (pe_callTy call_tuple_of (by rfl) Tx.tuple (by decide +kernel) (pa_cons (pv 7) pa_nil)) (pa_cons (pv 8) pa_nil)))))
  (pss_cons (ps_if (pt_not (pt_val (pe_own h_law_alike hr hG (by rfl) (pa_cons (pv 10) (pa_cons (pv 9) pa_nil)))))
    (pss_one (ps_ret pe_bl))
    pss_nil)
  (pss_cons (ps_set (i := 11) nd rfl (Or.inl rfl) (pe_own h_law_names hr hG (by rfl) (pa_cons (pv 1) (pa_cons (pv 4) pa_nil))))
  (pss_cons (ps_set (i := 12) nd rfl (Or.inl rfl) (pe_lst pa_nil))
  (pss_cons (ps_for PassesOwn.never rfl (pi_range1 (by rfl) Tx.range (pa_cons (pv 4) pa_nil)) (pg_name (i := 13) nd rfl (Or.inl rfl))
    (pss_cons (ps_set (i := 14) nd rfl (Or.inr rfl) (pe_disp (pps_cons pe_int pe_int (pps_cons pe_int pe_int (pps_cons pe_int pe_int pps_nil))) (by rfl) (by rfl) (fun z => by cases z) (Nat.le_of_ble_eq_true rfl)))
  (pss_cons (ps_set (i := 15) nd rfl (Or.inl rfl) (pe_callTy call_tuple_of (by rfl) Tx.tuple (by decide +kernel) (pa_cons (pe_lc (own := [("_law_atom_here", 20)]) (g := gName 20) (tt := tYes) rfl nd (pi_tup (pe_ix ix_tup (pe_ix ix_list (pv 5) (pv 13) (fun _ _ => rfl)) pe_int (fun _ _ => rfl))) (blkOk_by (own := [("_law_atom_here", 20)]) (N := Nlaw) (sc := defScope s_law) (by decide +kernel)) (fun _ _ _ _ _ => pg_name (i := 20) nd rfl (Or.inl rfl)) (fun _ _ _ _ _ => pts_nil) (fun _ _ _ _ _ => (pe_own h_law_replaced hr hG (by rfl) (pa_cons (pv 20) (pa_cons (pv 14) pa_nil))))) pa_nil)))
  (pss_one (ps_expr (pe_bm PySem.F.plainAttrs_list PySem.F.slot_list_append PySem.F.type_list_append mt_append (pv 12) (pa_cons (pe_own h_numbered_rule hr hG (by rfl) (pa_cons (pe_tup (pa_cons (pe_ix ix_list (pv 11) (pv 13) (fun _ _ => rfl)) (pa_cons (pv 15) (pa_cons (pe_own h_law_replaced hr hG (by rfl) (pa_cons (pe_ix ix_tup (pe_ix ix_list (pv 5) (pv 13) (fun _ _ => rfl)) pe_int (fun _ _ => rfl)) (pa_cons (pv 14) pa_nil))) pa_nil)))) pa_nil)) pa_nil)))))))
  (pss_cons (ps_set (i := 16) nd rfl (Or.inl rfl) (pe_own h_law_draw hr hG (by rfl) (pa_cons (pv 1) (pa_cons (pv 4) pa_nil))))
  (pss_cons (ps_set (i := 12) nd rfl (Or.inl rfl) (pe_op op_cat (pe_slice sl_list (pv 12) (po_some (pv 16)) po_none) (pe_slice sl_list (pv 12) po_none (po_some (pv 16)))))
  (pss_cons (ps_set (i := 16) nd rfl (Or.inl rfl) (pe_own h_law_draw hr hG (by rfl) (pa_cons (pv 1) (pa_cons (pe_callB call_len_seq (by rfl) Tx.len (by decide +kernel) (pa_cons (pv 7) pa_nil)) pa_nil))))
  (pss_cons (ps_if (pt_not (pt_val (pe_own h_law_alike hr hG (by rfl) (pa_cons (pe_own h_facts_within hr hG (by rfl) (pa_cons (pe_callTy call_tuple_of (by rfl) Tx.tuple (by decide +kernel) (pa_cons (pv 12) pa_nil)) (pa_cons (pe_callTy call_tuple_of (by rfl) Tx.tuple (by decide +kernel) (pa_cons (pe_op op_cat (pe_slice sl_list (pv 7) (po_some (pv 16)) po_none) (pe_slice sl_list (pv 7) po_none (po_some (pv 16)))) pa_nil)) (pa_cons (pv 8) pa_nil)))) (pa_cons (pv 9) pa_nil)))))
    (pss_one (ps_ret pe_bl))
    pss_nil)
  (pss_cons (ps_set (i := 17) nd rfl (Or.inl rfl) (pe_own h_law_draw hr hG (by rfl) (pa_cons (pv 1) (pa_cons (pe_op op_add (pv 4) pe_int) pa_nil))))
  (pss_cons (ps_set (i := 18) nd rfl (Or.inl rfl) (pe_lst (pa_cons (pe_own h_facts_within hr hG (by rfl) (pa_cons (pe_callTy call_tuple_of (by rfl) Tx.tuple (by decide +kernel) (pa_cons (pe_op op_cat (pe_op op_cat (pe_slice sl_list (pv 5) po_none (po_some (pv 17))) (pe_lst (pa_cons (pv 6) pa_nil))) (pe_slice sl_list (pv 5) (po_some (pv 17)) po_none)) pa_nil)) (pa_cons (pe_callTy call_tuple_of (by rfl) Tx.tuple (by decide +kernel) (pa_cons (pv 7) pa_nil)) (pa_cons (pv 8) pa_nil)))) pa_nil)))
  (pss_cons (ps_expr (pe_bm PySem.F.plainAttrs_list PySem.F.slot_list_append PySem.F.type_list_append mt_append (pv 18) (pa_cons (pe_own h_facts_within hr hG (by rfl) (pa_cons (pe_callTy call_tuple_of (by rfl) Tx.tuple (by decide +kernel) (pa_cons (pv 5) pa_nil)) (pa_cons (pe_callTy call_tuple_of (by rfl) Tx.tuple (by decide +kernel) (pa_cons (pe_op op_cat (pe_lst (pa_cons (pe_tup (pa_cons pe_str (pa_cons (pe_ix ix_list (pv 7) pe_int (fun _ _ => rfl)) pa_nil))) pa_nil)) (pv 7)) pa_nil)) (pa_cons (pv 8) pa_nil)))) pa_nil)))
  (pss_cons (ps_expr (pe_bm PySem.F.plainAttrs_list PySem.F.slot_list_append PySem.F.type_list_append mt_append (pv 18) (pa_cons (pe_own h_facts_within hr hG (by rfl) (pa_cons (pe_callTy call_tuple_of (by rfl) Tx.tuple (by decide +kernel) (pa_cons (pv 5) pa_nil)) (pa_cons (pe_callTy call_tuple_of (by rfl) Tx.tuple (by decide +kernel) (pa_cons (pv 7) pa_nil)) (pa_cons (pe_op op_add (pv 8) pe_int) pa_nil)))) pa_nil)))
  (pss_cons (ps_for PassesOwn.never rfl (pi_list (pv 18)) (pg_name (i := 19) nd rfl (Or.inr rfl))
    (pss_one (ps_if (PW.pt (pw_or (pt_not (pt_val (pe_callB call_isi (by rfl) Tx.isinstance (by decide +kernel) (pa_cons (pv 19) (pa_cons (pe_bltn (v := .ty "tuple") (by rfl) Tx.tuple boot_tuple rfl) pa_nil))))) (pw_or1 (pt_cmpR op_gt (pe_callB call_len_seq (by rfl) Tx.len (by decide +kernel) (pa_cons (pe_lc (own := [("_law_fact", 21)]) (g := gName 21) rfl nd (pi_tup (pv 9)) (blkOk_by (own := [("_law_fact", 21)]) (N := Nlaw) (sc := defScope s_law) (by decide +kernel)) (fun _ _ _ _ _ => pg_name (i := 21) nd rfl (Or.inl rfl)) (fun _ _ _ _ _ => pts_one (pt_cmpR (r := rNotInT K) (op_notInT (un65 hr)) (pv 21) (pv 19) (by rfl))) (fun _ _ _ _ _ => (pv 21))) pa_nil)) pe_int (nomark _)))))
    (pss_one (ps_ret pe_bl))
    pss_nil)))
  (pss_one (ps_ret pe_bl)))))))))))))))))))))))))), ?_⟩
    refine ⟨_, rfl, a, ns, rfl, hS, fun p l H1 e1 hT _ _ => ?_⟩
    have tab1 := tabs_ex hTab e1
    -- symbols
    refine ⟨_, rfl, _, rfl, p, l, _, rfl, hT, by decide, by decide, fun r1 H2 hr1 D2 => ?_⟩
    refine ⟨_, _, rfl, rfl, p, l, 1 + r1, rfl, D2.t, by omega, by omega, fun sy ss H3 D3 hsyn hsy ssl hss => ?_⟩
    have D13 := D2.trans D3
    have syp := (D2.t.off hsyn).p
    -- relations
    refine ⟨_, rfl, _, rfl, p, l, _, rfl, D3.t, by decide, by decide, fun r2 H4 hr2 D4 => ?_⟩
    refine ⟨_, _, rfl, rfl, p, l, 1 + r2, rfl, D4.t, by omega, fun re res H5 D5 hren hre rel hres => ?_⟩
    have D15 := (D13.trans D4).trans D5
    have D35 := D4.trans D5
    have rep := (D4.t.off hren).p
    have hsy5 := D35.keep syp hsy
    have hss5 := hss.up (D35.tk D3.t)
    -- how many
    refine ⟨_, rfl, p, l, _, rfl, D5.t, by decide, by decide, fun r3 H6 hr3 D6 => ?_⟩
    refine ⟨_, _, rfl, rfl, ?_⟩
    show gName 4 (V.int ((1 + r3 : Nat) : Int)) _ _ _
    have n1 : 1 ≤ 1 + r3 := by omega
    have n4 : 1 + r3 ≤ 4 := by omega
    generalize 1 + r3 = n at n1 n4 ⊢
    have D16 := D15.trans D6
    have hsy6 := D6.keep syp hsy5
    have hss6 := hss5.up (D6.tk D5.t)
    have hre6 := D6.keep rep hre
    have hres6 := hres.up (D6.tk D5.t)
    -- rules
    refine ⟨_, rfl, _, rfl, _, rfl, _, rfl, _, _, rfl, rfl, p, l, re, sy, res, ss, n + 1, rfl, D6.t, hsy6, syp, hss6, by omega, by omega, hre6, rep, hres6, by omega, by omega, by omega, fun ru rvs0 rs0 H7 D7 hrun hru7 hrr7 rl0 good0 => ?_⟩
    have D17 := D16.trans D7
    have ru1 : H1 ru = none := D16.fresh hrun
    have oru : Off ru p l := hT.off ru1
    have rvl := Pa.len hrr7
    have hsy7 := D7.keep syp hsy6
    have hss7 := hss6.up (D7.tk D6.t)
    have sru : sy ≠ ru := ne_new hsy6 hrun
    -- pop
    refine ⟨_, rfl, .inl ⟨rfl, _, .inl (.inl hru7)⟩, ?_⟩
    refine ⟨_, rfl, _, rfl, p, l, _, rfl, D7.t, by omega, by omega, fun r4 H8 hr4 D8 => ?_⟩
    have hru8 := D8.keep oru.p hru7
    have hrr8 := RlsA.up hrr7 (D8.tk D7.t)
    obtain ⟨fv, hfv⟩ : ∃ fv, rvs0[1 + r4]? = some fv := ⟨_, List.getElem?_eq_getElem (by omega)⟩
    obtain ⟨rf, hrf, hfu8⟩ := Pa.get' hrr8 hfv
    refine ⟨_, _, rfl, rfl, ru, rvs0, ((1 + r4 : Nat) : Int), 1 + r4, fv, rfl, rfl, hru8, by omega, by omega, ?_, hfv, ?_⟩
    · have := seqIndex_of (k := ((1 + r4 : Nat) : Int)) (n := rvs0.length) (by omega) (by omega)
      rw [Int.toNat_natCast] at this
      exact this
    have k9 : Tk K H8 (upd H8 ru (.lst (rvs0.eraseIdx (1 + r4)))) := Tk.xb hru8 rfl Xb.upd
    have D19 : Dr p l H1 (upd H8 ru (.lst (rvs0.eraseIdx (1 + r4)))) := (D17.trans D8).mut ru1 oru
    have hsy9 : (upd H8 ru (.lst (rvs0.eraseIdx (1 + r4)))) sy = some (.lst ss) := by rw [upd_ne sru]; exact D8.keep syp hsy7
    have hss9 := (hss7.up (D8.tk D7.t)).up k9
    have hru9 : (upd H8 ru (.lst (rvs0.eraseIdx (1 + r4)))) ru = some (.lst (rvs0.eraseIdx (1 + r4))) := upd_same
    have hrr9 : RlsA K (upd H8 ru (.lst (rvs0.eraseIdx (1 + r4)))) (rvs0.eraseIdx (1 + r4)) (rs0.eraseIdx (1 + r4)) := RlsA.up (Pa.erase _ hrr8) k9
    have hfu9 := hfu8.up k9
    have goodf : Good rf := good0 rf (List.mem_of_getElem? hrf)
    have good : ∀ r ∈ rs0.eraseIdx (1 + r4), Good r := fun r hr => good0 r (List.eraseIdx_subset hr)
    have rsl : (rs0.eraseIdx (1 + r4)).length = n := by
      rw [List.length_eraseIdx, if_pos (by omega)]
      omega
    generalize upd H8 ru (.lst (rvs0.eraseIdx (1 + r4))) = H9 at k9 D19 hsy9 hss9 hru9 hrr9 hfu9 ⊢
    generalize rvs0.eraseIdx (1 + r4) = rvs at hru9 hrr9
    generalize rs0.eraseIdx (1 + r4) = rs at hrr9 good rsl
    have rvsl := Pa.len hrr9
    -- the universe
    refine ⟨_, rfl, _, rfl, _, rfl, p, l, _, rfl, D19.t, by decide, by decide, fun r5 H10 hr5 D10 => ?_⟩
    have oru' := oru.p
    refine ⟨_, _, rfl, rfl, p, l, sy, ss, 1 + r5, rfl, D10.t, D10.keep syp hsy9, syp, hss9.up (D10.tk D19.t), by omega, by omega, by omega, by omega, fun te tvs ts H11 D11 hten hte11 htt11 t1 t3 tg => ?_⟩
    have tep := (D10.t.off hten).p
    have tvl := Pa.len htt11
    -- the height
    refine ⟨_, rfl, p, l, _, rfl, D11.t, by decide, by decide, fun h H12 hh D12 => ?_⟩
    have D912 := (D10.trans D11).trans D12
    have D112 := D19.trans D912
    have hru12 := D912.keep oru' hru9
    have hrr12 := RlsA.up hrr9 (D912.tk D19.t)
    have hfu12 := hfu9.up (D912.tk D19.t)
    have hte12 := D12.keep tep hte11
    have htt12 := htt11.up (D12.tk D11.t)
    have tab12 : LamX.Tabs (TbT TP) H12 := by
      obtain ⟨⟨xs, hp⟩, _⟩ := hT.lst
      exact tabs_xb tab1 hp D112.x
    -- what is due
    refine ⟨_, rfl, _, rfl, _, rfl, ru, te, h, 3, rvs, rs, tvs, ts, rfl, hru12, hte12, hrr12, htt12, good, tg, by omega, by omega, by decide, by omega, fun fl fws fs H13 e13 hfl hfs is f4 => ?_⟩
    have fgr : ∀ f ∈ fs, Gr 7 f := fun f hf => by
      have := Fc.ground good tg (show Fc rs ts h f from (is.iff f).mp hf)
      exact ⟨this.1.up (by omega), this.2⟩
    refine ⟨fl, fws, fs, 7, rfl, .inl (.inl hfl), hfs, fgr, by decide, fun dvs S hdvs hS13 => ?_⟩
    have e14 : Ex H13 (upd H13 S (.lst dvs)) := Ex.new hS13
    refine ⟨S, dvs, rfl, .inl ⟨.inl (.inl upd_same), fun due hdue => ?_⟩⟩
    have e15 : Ex (upd H13 S (.lst dvs)) (upd (upd H13 S (.lst dvs)) due (.tup dvs)) := Ex.new hdue
    have e1215 := (e13.trans e14).trans e15
    have F0 : Facts rs ts h (srt fs) := ⟨fs, is, rfl⟩
    have L4 : (srt fs).length ≤ 400 := by
      have := (List.mergeSort_perm fs le').length_eq
      show (fs.mergeSort le').length ≤ 400
      omega
    have W : WD K TP p l ru te due rvs rs fv rf tvs ts dvs (srt fs) (upd (upd H13 S (.lst dvs)) due (.tup dvs)) :=
      ⟨D12.t.ex e1215, tabs_ex tab12 e1215, e1215 _ _ hru12, oru', RlsA.up hrr12 (Tk.ex e1215), hfu12.up (Tk.ex e1215), e1215 _ _ hte12, tep, htt12.up (Tk.ex e1215), .inl (.inl upd_same), TsA.up hdvs (Tk.ex (e14.trans e15))⟩
    generalize upd (upd H13 S (.lst dvs)) due (.tup dvs) = Ha at W ⊢
    generalize srt fs = L at W F0 L4
    clear e1215 e15 e14 hdue hS13 fgr hfs hfl e13
    have Lg := facts_gr F0 good tg (by decide)
    -- what is told
    refine ⟨_, rfl, ru, rvs, rfl, .inl ⟨.inl (.inl W.ruh), fun u1 hu1 => ?_⟩⟩
    have k1 := W.refl.new (o := .tup rvs) hu1
    have W1 := W.up k1
    have s1 : SqT K (upd Ha u1 (.tup rvs)) u1 rvs := .inl (.inl upd_same)
    refine ⟨_, rfl, te, tvs, rfl, .inl ⟨.inl (.inl W1.teh), fun u2 hu2 => ?_⟩⟩
    have k2 := k1.new (o := .tup tvs) hu2
    have W2 := W.up k2
    refine ⟨_, rfl, u1, u2, h, 3, rvs, rs, tvs, ts, rfl, Evl.ex_t (Ex.new hu2) s1, .inl (.inl upd_same), ⟨W2.rr, W2.tt, good, tg, by omega, by omega, by decide, W2.tab⟩, by omega, fun told tws L1 Hb eb tabb htold htws F1 l1 => ?_⟩
    have kb := k2.extN eb tabb
    have Wb := W.up kb
    have eL1 : L1 = L := F1.same F0 good tg (fun _ => Iff.rfl) (fun _ => Iff.rfl)
    subst eL1
    refine ⟨_, rfl, _, rfl, told, due, tws, dvs, L1, rfl, htold, Wb.du, htws, Wb.dd, Lg, L4, true, rfl, iteF ?_⟩
    clear k1 W1 s1 k2 W2 eb kb W hu1 hu2
    -- names
    refine ⟨_, rfl, _, rfl, p, l, n, rfl, Wb.t, by omega, fun NL ns' Hc Dc hNn hN nl => ?_⟩
    have kc := Wb.refl.dr Dc
    have Wc := Wb.up kc
    have NLp := (Wb.t.off hNn).p
    refine ⟨szl (Nat.zero_le _), fun OL hOL => ?_⟩
    have oOL : Off OL p l := Wc.t.off hOL
    refine ⟨_, rfl, n, rfl, by omega, by omega, ?_⟩
    refine for_range (lo := 0) (n := (n : Int).toNat) (fun i σ' H' => ∃ (y13 y14 y15 : Option V) (ovs : List V), σ' = [some (.ref a), some (.ref p), some (.ref sy), some (.ref re), some (.int n), some (.ref ru), some fv, some (.ref te), some (.int h), some (.ref due), some (.ref told), some (.ref NL), some (.ref OL), y13, y14, y15, none, none, none, none, none, none] ∧ Kp TP p l Hc H' ∧ H' OL = some (.lst ovs) ∧ RlsA K H' ovs (rs.take i))
      ⟨none, none, none, [], rfl, Wc.refl.new hOL, upd_same, by simp; exact .nil⟩ ?_ ?_
    · rintro i σ' H' hi ⟨y13, y14, y15, ovs, rfl, k0, hO, hor⟩
      have W0 := Wc.up k0
      have hi' : i < n := by omega
      have e0 : (0 : Int) + (i : Int) = (i : Int) := by omega
      obtain ⟨x, hx⟩ : ∃ x, rvs[i]? = some x := ⟨_, List.getElem?_eq_getElem (by omega)⟩
      obtain ⟨r, hr1, hxr⟩ := Pa.get' W0.rr hx
      have g := good r (List.mem_of_getElem? hr1)
      obtain ⟨ra, pa, rnm, c, ps, rfl, ha1, ha2, ha3, ha4⟩ := hxr
      have psl := Pa.len ha3
      have pre3 := g.pre
      have fit := g.fit
      have lo := g.lo3
      simp only [Fits, Los] at fit lo
      refine fun tb htb => ⟨upd_same, tab3, rfl, by decide, ?_⟩
      have i1 : Ex H' (upd H' tb (.dK [])) := Ex.new htb
      have i2 : Ex H' (upd (upd H' tb (.dK [])) tb (.dK (mergeK [] tab3))) := i1.mutN htb
      have htb2 : (upd (upd H' tb (.dK [])) tb (.dK (mergeK [] tab3))) tb = some (.dK tab3) := upd_same
      generalize upd (upd H' tb (.dK [])) tb (.dK (mergeK [] tab3)) = H2 at i2 htb2 ⊢
      have k2 := k0.ex i2
      have put : ∀ (H'' : Hp) n, n < 3 → TA K H'' (putAt tab3 n) (ren g3 n) := fun H'' n hn => by
        rw [tab3_at hn]
        exact TA.var _
      refine ⟨_, rfl, _, rfl, ru, rvs, _, _, rfl, rfl, .inl (.inl (i2 _ _ W0.ruh)), atN e0 hx, ra, _, 1, _, rfl, rfl, Evl.ex_t i2 ha1, at1, pa, rfl, ⟨ps, Evl.ex_t i2 ha2⟩, fun D hD => ?_⟩
      refine lc_ex (K := K) (xs := ps) (fun H' i y => ∀ t, r.prem[i]? = some t → TA K H' y (sub (ren g3) t)) (fun H H' i y k h t ht => (h t ht).up k) (ys_tup fun H' e => Evl.ex_t (i2.trans e) ha2) (by omega) (by intro _; rfl) ?_ hD ?_
      · intro i' x' H3 Qk hxi e3 qk
        obtain ⟨t, ht, hxt⟩ := Pa.get' ha3 hxi
        have hm := List.mem_of_getElem? ht
        refine ⟨_, rfl, _, rfl, x', t, tb, tab3, ren g3, rfl, hxt.up (Tk.ex (i2.trans e3)), fits_iff.mp fit.2 t hm, e3 _ _ htb2, fun n hn => put H3 n ((lo_iff t).mp (los_iff.mp lo.2 t hm) n hn), fun v' H4 e4 hv' => qk v' H4 e4 fun t' ht' => ?_⟩
        rw [ht] at ht'
        rw [← Option.some.inj ht']
        exact hv'
      · intro H3 acc e3 hDa hl hR
        have hacc : TsA K H3 acc (subs (ren g3) r.prem) := by
          refine paired_of (by rw [hl, subs_map, List.length_map, psl]) fun i y t hy ht => ?_
          obtain ⟨u, hu1, rfl⟩ := subs_get ht
          exact hR i y hy u hu1
        refine ⟨D, acc, rfl, .inl ⟨.inl (.inl hDa), fun pt hpt => ?_⟩⟩
        have e4 : Ex H3 (upd H3 pt (.tup acc)) := Ex.new hpt
        have hpt4 : (upd H3 pt (.tup acc)) pt = some (.tup acc) := upd_same
        have hacc4 := hacc.up (Tk.ex e4)
        have i4 := (i2.trans e3).trans e4
        have htb4 := (e3.trans e4) _ _ htb2
        generalize upd H3 pt (.tup acc) = H4 at e4 hpt4 hacc4 i4 htb4 ⊢
        have k4 := k0.ex i4
        have hO4 := i4 _ _ hO
        refine ⟨_, rfl, .inl ⟨rfl, _, .inl (.inl hO4)⟩, ?_⟩
        obtain ⟨nm, hnm⟩ : ∃ nm, ns'[i]? = some nm := ⟨_, List.getElem?_eq_getElem (by omega)⟩
        refine ⟨_, rfl, _, rfl, NL, _, _, .str nm, rfl, rfl, .inl (.inl (k4.lst NLp hN)), atN e0 (by rw [List.getElem?_map, hnm]; rfl), ?_⟩
        refine ⟨_, rfl, _, rfl, _, rfl, ru, rvs, _, _, rfl, rfl, .inl (.inl (i4 _ _ W0.ruh)), atN e0 hx, ra, _, 2, _, rfl, rfl, Evl.ex_t i4 ha1, at2, ?_⟩
        refine ⟨_, rfl, c, r.con, tb, tab3, ren g3, rfl, ha4.up (Tk.ex i4), fit.1, htb4, fun n hn => put H4 n ((lo_iff _).mp lo.1 n hn), fun cv H5 e5 hcv => ?_⟩
        refine ⟨szl (show 3 ≤ 100000 by decide), fun z hz => ?_⟩
        have e6 : Ex H5 (upd H5 z (.tup [.str nm, .ref pt, cv])) := Ex.new hz
        have fitsr := ren3_fits (ts := r.con :: r.prem) g.fit
        simp only [subs] at fitsr
        refine ⟨_, ⟨subs (ren g3) r.prem, sub (ren g3) r.con⟩, rfl, ⟨z, pt, nm, cv, acc, rfl, .inl (.inl upd_same), .inl (.inl ((e5.trans e6) _ _ hpt4)), hacc4.up (Tk.ex (e5.trans e6)), hcv.up (Tk.ex e6)⟩, fitsr, by rw [subs_map, List.length_map]; exact pre3, fun v' H7 e7 hv' => ?_⟩
        rw [numbR_ren g] at hv'
        have i7 := ((i4.trans e5).trans e6).trans e7
        have k7 := k0.ex i7
        have hO7 := i7 _ _ hO
        have ol := Pa.len hor
        rw [List.length_take] at ol
        refine ⟨OL, ovs, _, rfl, rfl, hO7, szs (by omega), ?_⟩
        have k8 : Tk K H7 (upd H7 OL (.lst (ovs ++ [v']))) := Tk.xb hO7 rfl Xb.upd
        refine ⟨_, _, _, ovs ++ [v'], rfl, k7.mut hOL oOL hO7, upd_same, ?_⟩
        rw [take_snoc hr1]
        exact Pa.snoc (RlsA.up hor ((Tk.ex i7).trans k8)) (hv'.up k8)
    · rintro σ' Hd ⟨y13, y14, y15, ovs, rfl, kd, hO, hor⟩
      rw [Int.toNat_natCast, ← rsl, List.take_length] at hor
      have Wd := Wc.up kd
      have ovl := Pa.len hor
      -- turned
      refine ⟨_, rfl, _, rfl, p, l, _, rfl, Wd.t, by omega, by omega, fun r6 He hr6 De => ?_⟩
      have ke := Wd.refl.dr De
      have We := Wd.up ke
      have hOe := De.keep oOL.p hO
      have hore := RlsA.up hor (De.tk Wd.t)
      refine ⟨_, rfl, _, rfl, (r6 : Int), rfl, OL, ovs, rfl, .inl (.inl hOe), fun b1 hb1 => ?_⟩
      rw [cut_drop ovs r6 (by omega)]
      have j1 : Ex He (upd He b1 (.lst (ovs.drop r6))) := Ex.new hb1
      have hb11 : (upd He b1 (.lst (ovs.drop r6))) b1 = some (.lst (ovs.drop r6)) := upd_same
      generalize upd He b1 (.lst (ovs.drop r6)) = Hf1 at j1 hb11 ⊢
      refine ⟨_, rfl, _, rfl, (r6 : Int), rfl, OL, ovs, rfl, .inl (.inl (j1 _ _ hOe)), fun b2 hb2 => ?_⟩
      rw [cut_take ovs r6 (by omega)]
      have j2 : Ex Hf1 (upd Hf1 b2 (.lst (ovs.take r6))) := Ex.new hb2
      have hb22 : (upd Hf1 b2 (.lst (ovs.take r6))) b2 = some (.lst (ovs.take r6)) := upd_same
      generalize upd Hf1 b2 (.lst (ovs.take r6)) = Hf2 at j2 hb22 ⊢
      have otl : (ovs.drop r6 ++ ovs.take r6).length = ovs.length := tl_len
      refine ⟨b1, b2, _, _, rfl, rfl, j2 _ _ hb11, hb22, szl (by rw [List.length_append] at otl; omega), fun o2 ho2 => ?_⟩
      have j3 : Ex Hf2 (upd Hf2 o2 (.lst (ovs.drop r6 ++ ovs.take r6))) := Ex.new ho2
      have ho22 : (upd Hf2 o2 (.lst (ovs.drop r6 ++ ovs.take r6))) o2 = some (.lst (ovs.drop r6 ++ ovs.take r6)) := upd_same
      generalize upd Hf2 o2 (.lst (ovs.drop r6 ++ ovs.take r6)) = Hf at j3 ho22 ⊢
      have j03 := (j1.trans j2).trans j3
      have kf' := ke.ex j03
      have Wf := Wd.up kf'
      have horf : RlsA K Hf (ovs.drop r6 ++ ovs.take r6) (rs.drop r6 ++ rs.take r6) := RlsA.up (Pa.app (Pa.drop r6 hore) (Pa.take r6 hore)) (Tk.ex j03)
      have o2p : o2 ≠ p := by
        obtain ⟨⟨xs, hp⟩, _⟩ := ((De.t.ex j1).ex j2).lst
        exact (ne_new hp ho2).symm
      -- the universe turned
      refine ⟨_, rfl, _, rfl, te, tvs, rfl, .inl (.inl (.inl Wf.teh)), p, l, _, rfl, Wf.t, by omega, by omega, fun r7 Hg hr7 Dg => ?_⟩
      have kg := Wf.refl.dr Dg
      have Wg := Wf.up kg
      have ho2g := Dg.keep o2p ho22
      have horg := RlsA.up horf (Dg.tk Wf.t)
      -- told of the other
      refine ⟨_, rfl, o2, _, rfl, .inl ⟨.inl (.inl ho2g), fun u1 hu1 => ?_⟩⟩
      have m1 : Ex Hg (upd Hg u1 (.tup (ovs.drop r6 ++ ovs.take r6))) := Ex.new hu1
      have hu11 : SqT K (upd Hg u1 (.tup (ovs.drop r6 ++ ovs.take r6))) u1 (ovs.drop r6 ++ ovs.take r6) := .inl (.inl upd_same)
      generalize upd Hg u1 (.tup (ovs.drop r6 ++ ovs.take r6)) = Hh1 at m1 hu11 ⊢
      refine ⟨_, rfl, _, rfl, (r7 : Int), rfl, te, tvs, rfl, .inl (.inl (m1 _ _ Wg.teh)), fun b3 hb3 => ?_⟩
      rw [cut_drop tvs r7 (by omega)]
      have m2 : Ex Hh1 (upd Hh1 b3 (.lst (tvs.drop r7))) := Ex.new hb3
      have hb33 : (upd Hh1 b3 (.lst (tvs.drop r7))) b3 = some (.lst (tvs.drop r7)) := upd_same
      generalize upd Hh1 b3 (.lst (tvs.drop r7)) = Hh2 at m2 hb33 ⊢
      refine ⟨_, rfl, _, rfl, (r7 : Int), rfl, te, tvs, rfl, .inl (.inl ((m1.trans m2) _ _ Wg.teh)), fun b4 hb4 => ?_⟩
      rw [cut_take tvs r7 (by omega)]
      have m3 : Ex Hh2 (upd Hh2 b4 (.lst (tvs.take r7))) := Ex.new hb4
      have hb44 : (upd Hh2 b4 (.lst (tvs.take r7))) b4 = some (.lst (tvs.take r7)) := upd_same
      generalize upd Hh2 b4 (.lst (tvs.take r7)) = Hh3 at m3 hb44 ⊢
      have ttl : (tvs.drop r7 ++ tvs.take r7).length = tvs.length := tl_len
      refine ⟨b3, b4, _, _, rfl, rfl, m3 _ _ hb33, hb44, szl (by rw [List.length_append] at ttl; omega), fun o3 ho3 => ?_⟩
      have m4 : Ex Hh3 (upd Hh3 o3 (.lst (tvs.drop r7 ++ tvs.take r7))) := Ex.new ho3
      have ho33 : (upd Hh3 o3 (.lst (tvs.drop r7 ++ tvs.take r7))) o3 = some (.lst (tvs.drop r7 ++ tvs.take r7)) := upd_same
      generalize upd Hh3 o3 (.lst (tvs.drop r7 ++ tvs.take r7)) = Hh4 at m4 ho33 ⊢
      refine ⟨o3, _, rfl, .inl ⟨.inl (.inl ho33), fun u2 hu2 => ?_⟩⟩
      have m5 : Ex Hh4 (upd Hh4 u2 (.tup (tvs.drop r7 ++ tvs.take r7))) := Ex.new hu2
      have hu22 : SqT K (upd Hh4 u2 (.tup (tvs.drop r7 ++ tvs.take r7))) u2 (tvs.drop r7 ++ tvs.take r7) := .inl (.inl upd_same)
      generalize upd Hh4 u2 (.tup (tvs.drop r7 ++ tvs.take r7)) = Hh at m5 hu22 ⊢
      have m25 := ((m2.trans m3).trans m4).trans m5
      have m05 := m1.trans m25
      have kh := kg.ex m05
      have Wh := Wf.up kh
      have rtl : (rs.drop r6 ++ rs.take r6).length = rs.length := tl_len
      have ttl2 : (ts.drop r7 ++ ts.take r7).length = ts.length := tl_len
      refine ⟨_, rfl, u1, u2, h, 3, _, rs.drop r6 ++ rs.take r6, _, ts.drop r7 ++ ts.take r7, rfl, Evl.ex_t m25 hu11, hu22, ⟨RlsA.up horg (Tk.ex m05), Pa.app (Pa.drop r7 Wh.tt) (Pa.take r7 Wh.tt), fun r hr => good r (cat_mem.mp hr), fun t ht => tg t (cat_mem.mp ht), by omega, by omega, by decide, Wh.tab⟩, by omega, fun told2 tws2 L2 Hi ei tabi htold2 htws2 F2 l2 => ?_⟩
      have ki := kh.extN ei tabi
      have Wi := Wf.up ki
      have eL2 : L2 = L1 := F2.same F0 (fun r hr => good r (cat_mem.mp hr)) (fun t ht => tg t (cat_mem.mp ht)) (fun _ => cat_mem) (fun _ => cat_mem)
      subst eL2
      refine ⟨_, rfl, told2, due, tws2, dvs, L2, rfl, htold2, Wi.du, htws2, Wi.dd, Lg, L4, true, rfl, iteF ?_⟩
      -- the place of the further rule
      refine ⟨_, rfl, _, rfl, _, _, rfl, rfl, p, l, _, rfl, Wi.t, by omega, by omega, fun pl Hj hpl Dj => ?_⟩
      have kj := Wi.refl.dr Dj
      have Wj := Wi.up kj
      have plb : pl ≤ n := by omega
      -- more rules
      refine ⟨_, rfl, _, rfl, (pl : Int), rfl, ru, rvs, rfl, .inl (.inl Wj.ruh), fun b5 hb5 => ?_⟩
      rw [cut_take rvs pl (by omega)]
      have p1 : Ex Hj (upd Hj b5 (.lst (rvs.take pl))) := Ex.new hb5
      have hb55 : (upd Hj b5 (.lst (rvs.take pl))) b5 = some (.lst (rvs.take pl)) := upd_same
      generalize upd Hj b5 (.lst (rvs.take pl)) = Hk1 at p1 hb55 ⊢
      refine ⟨_, rfl, szl (show 1 ≤ 100000 by decide), fun b6 hb6 => ?_⟩
      have p2 : Ex Hk1 (upd Hk1 b6 (.lst [fv])) := Ex.new hb6
      have hb66 : (upd Hk1 b6 (.lst [fv])) b6 = some (.lst [fv]) := upd_same
      generalize upd Hk1 b6 (.lst [fv]) = Hk2 at p2 hb66 ⊢
      have tkl : (rvs.take pl).length ≤ n := by rw [List.length_take]; omega
      have dpl : (rvs.drop pl).length ≤ n := by rw [List.length_drop]; omega
      refine ⟨b5, b6, _, _, rfl, rfl, p2 _ _ hb55, hb66, szl (by simp; omega), fun b7 hb7 => ?_⟩
      have p3 : Ex Hk2 (upd Hk2 b7 (.lst (rvs.take pl ++ [fv]))) := Ex.new hb7
      have hb77 : (upd Hk2 b7 (.lst (rvs.take pl ++ [fv]))) b7 = some (.lst (rvs.take pl ++ [fv])) := upd_same
      generalize upd Hk2 b7 (.lst (rvs.take pl ++ [fv])) = Hk3 at p3 hb77 ⊢
      have p13 := (p1.trans p2).trans p3
      refine ⟨_, rfl, _, rfl, (pl : Int), rfl, ru, rvs, rfl, .inl (.inl (p13 _ _ Wj.ruh)), fun b8 hb8 => ?_⟩
      rw [cut_drop rvs pl (by omega)]
      have p4 : Ex Hk3 (upd Hk3 b8 (.lst (rvs.drop pl))) := Ex.new hb8
      have hb88 : (upd Hk3 b8 (.lst (rvs.drop pl))) b8 = some (.lst (rvs.drop pl)) := upd_same
      generalize upd Hk3 b8 (.lst (rvs.drop pl)) = Hk4 at p4 hb88 ⊢
      refine ⟨b7, b8, _, _, rfl, rfl, p4 _ _ hb77, hb88, szl (by simp only [List.length_append, List.length_cons, List.length_nil]; omega), fun b9 hb9 => ?_⟩
      have p5 : Ex Hk4 (upd Hk4 b9 (.lst (rvs.take pl ++ [fv] ++ rvs.drop pl))) := Ex.new hb9
      have hb99 : (upd Hk4 b9 (.lst (rvs.take pl ++ [fv] ++ rvs.drop pl))) b9 = some (.lst (rvs.take pl ++ [fv] ++ rvs.drop pl)) := upd_same
      generalize upd Hk4 b9 (.lst (rvs.take pl ++ [fv] ++ rvs.drop pl)) = Hk5 at p5 hb99 ⊢
      refine ⟨b9, _, rfl, .inl ⟨.inl (.inl hb99), fun u3 hu3 => ?_⟩⟩
      have p6 : Ex Hk5 (upd Hk5 u3 (.tup (rvs.take pl ++ [fv] ++ rvs.drop pl))) := Ex.new hu3
      have hu33 : SqT K (upd Hk5 u3 (.tup (rvs.take pl ++ [fv] ++ rvs.drop pl))) u3 (rvs.take pl ++ [fv] ++ rvs.drop pl) := .inl (.inl upd_same)
      generalize upd Hk5 u3 (.tup (rvs.take pl ++ [fv] ++ rvs.drop pl)) = Hk6 at p6 hu33 ⊢
      have p16 := ((p13.trans p4).trans p5).trans p6
      refine ⟨_, rfl, te, tvs, rfl, .inl ⟨.inl (.inl (p16 _ _ Wj.teh)), fun u4 hu4 => ?_⟩⟩
      have p7 : Ex Hk6 (upd Hk6 u4 (.tup tvs)) := Ex.new hu4
      have hu44 : SqT K (upd Hk6 u4 (.tup tvs)) u4 tvs := .inl (.inl upd_same)
      generalize upd Hk6 u4 (.tup tvs) = Hk at p7 hu44 ⊢
      have kk := kj.ex (p16.trans p7)
      have Wk := Wi.up kk
      have mem2 : ∀ r, r ∈ rs.take pl ++ [rf] ++ rs.drop pl ↔ r = rf ∨ r ∈ rs := fun r => by
        constructor
        · intro h
          rcases List.mem_append.mp h with h | h
          · rcases List.mem_append.mp h with h | h
            · exact .inr (List.take_subset _ _ h)
            · exact .inl (List.mem_singleton.mp h)
          · exact .inr (List.drop_subset _ _ h)
        · rintro (h | h)
          · exact List.mem_append.mpr (.inl (List.mem_append.mpr (.inr (List.mem_singleton.mpr h))))
          · rw [← List.take_append_drop pl rs] at h
            rcases List.mem_append.mp h with h | h
            · exact List.mem_append.mpr (.inl (List.mem_append.mpr (.inl h)))
            · exact List.mem_append.mpr (.inr h)
      have good2 : ∀ r ∈ rs.take pl ++ [rf] ++ rs.drop pl, Good r := fun r hr => by
        rcases (mem2 r).mp hr with rfl | h
        · exact goodf
        · exact good r h
      refine ⟨_, rfl, u3, u4, h, 3, _, rs.take pl ++ [rf] ++ rs.drop pl, _, ts, rfl, Evl.ex_t p7 hu33, hu44, ⟨Pa.app (Pa.app (Pa.take pl Wk.rr) (.cons Wk.fu .nil)) (Pa.drop pl Wk.rr), Wk.tt, good2, tg, by simp only [List.length_append, List.length_cons, List.length_nil, List.length_take, List.length_drop]; omega, by omega, by decide, Wk.tab⟩, by omega, fun t1' ws1 L3 Hl el tabl ht1' hws1 F3 l3 => ?_⟩
      have kl := kk.extN el tabl
      have Wl := Wi.up kl
      have sub3 : ∀ f ∈ L2, f ∈ L3 := fun f hf => F3.mem.mpr (Fc.mono (fun r hr => (mem2 r).mpr (.inr hr)) (fun _ h => h) (F0.mem.mp hf))
      have gr3 := facts_gr F3 good2 tg (by decide)
      -- the list of the greater
      refine ⟨szl (show 1 ≤ 100000 by decide), fun G hG0 => ?_⟩
      have oG : Off G p l := Wl.t.off hG0
      have ku := Wl.refl.new (o := .lst [.ref t1']) hG0
      have hG1 : (upd Hl G (.lst [.ref t1'])) G = some (.lst [.ref t1']) := upd_same
      generalize upd Hl G (.lst [.ref t1']) = Hm at ku hG1 ⊢
      have Wm := Wl.up ku
      -- more terms
      refine ⟨_, rfl, .inl ⟨rfl, _, .inl (.inl hG1)⟩, ?_⟩
      refine ⟨_, rfl, ru, rvs, rfl, .inl ⟨.inl (.inl Wm.ruh), fun u5 hu5 => ?_⟩⟩
      have v1 : Ex Hm (upd Hm u5 (.tup rvs)) := Ex.new hu5
      have hu55 : SqT K (upd Hm u5 (.tup rvs)) u5 rvs := .inl (.inl upd_same)
      generalize upd Hm u5 (.tup rvs) = Hn1 at v1 hu55 ⊢
      obtain ⟨t0v, ht0v⟩ : ∃ t0v, tvs[0]? = some t0v := ⟨_, List.getElem?_eq_getElem (by omega)⟩
      obtain ⟨t0, ht0, hta0⟩ := Pa.get' Wm.tt ht0v
      refine ⟨_, rfl, te, tvs, _, _, rfl, rfl, .inl (.inl (v1 _ _ Wm.teh)), atI_nat (j := 0) ht0v, szl (show 2 ≤ 100000 by decide), fun fx hfx => ?_⟩
      have v2 : Ex Hn1 (upd Hn1 fx (.tup [.str "further", t0v])) := Ex.new hfx
      have hfx2 : SqT K (upd Hn1 fx (.tup [.str "further", t0v])) fx [.str "further", t0v] := .inl (.inl upd_same)
      generalize upd Hn1 fx (.tup [.str "further", t0v]) = Hn2 at v2 hfx2 ⊢
      refine ⟨szl (show 1 ≤ 100000 by decide), fun b10 hb10 => ?_⟩
      have v3 : Ex Hn2 (upd Hn2 b10 (.lst [.ref fx])) := Ex.new hb10
      have hb1010 : (upd Hn2 b10 (.lst [.ref fx])) b10 = some (.lst [.ref fx]) := upd_same
      generalize upd Hn2 b10 (.lst [.ref fx]) = Hn3 at v3 hb1010 ⊢
      have v13 := (v1.trans v2).trans v3
      refine ⟨_, rfl, b10, te, _, _, rfl, rfl, hb1010, v13 _ _ Wm.teh, szl (by simp only [List.length_cons, List.length_nil]; omega), fun b11 hb11' => ?_⟩
      have v4 : Ex Hn3 (upd Hn3 b11 (.lst ([.ref fx] ++ tvs))) := Ex.new hb11'
      have hb1111 : (upd Hn3 b11 (.lst ([.ref fx] ++ tvs))) b11 = some (.lst ([.ref fx] ++ tvs)) := upd_same
      generalize upd Hn3 b11 (.lst ([.ref fx] ++ tvs)) = Hn4 at v4 hb1111 ⊢
      refine ⟨b11, _, rfl, .inl ⟨.inl (.inl hb1111), fun u6 hu6 => ?_⟩⟩
      have v5 : Ex Hn4 (upd Hn4 u6 (.tup ([.ref fx] ++ tvs))) := Ex.new hu6
      have hu66 : SqT K (upd Hn4 u6 (.tup ([.ref fx] ++ tvs))) u6 ([.ref fx] ++ tvs) := .inl (.inl upd_same)
      generalize upd Hn4 u6 (.tup ([.ref fx] ++ tvs)) = Hn5 at v5 hu66 ⊢
      have v15 := (v13.trans v4).trans v5
      have kn := ku.ex v15
      have Wn := Wl.up kn
      have g0 := tg t0 (List.mem_of_getElem? ht0)
      have gx : Gr 4 (.a "further" [t0]) := by
        constructor
        · simp only [Fit, Fits]
          exact ⟨by decide, ⟨by decide +kernel, by decide +kernel⟩, (show 1 ≤ 3 by decide), g0.1, trivial⟩
        · simp only [Lo, Los]
          exact ⟨g0.2, trivial⟩
      have tg4 : ∀ t ∈ [T.a "further" [t0]] ++ ts, Gr 4 t := fun t ht => by
        rcases List.mem_append.mp ht with h | h
        · rw [List.mem_singleton.mp h]
          exact gx
        · exact ⟨(tg t h).1.up (by decide), (tg t h).2⟩
      have hfxA : TA K Hn5 (.ref fx) (.a "further" [t0]) := TA.app (Evl.ex_t ((v3.trans v4).trans v5) hfx2) (.cons (hta0.up (Tk.ex v15)) .nil)
      refine ⟨_, rfl, u5, u6, h, 4, _, rs, _, [T.a "further" [t0]] ++ ts, rfl, Evl.ex_t (((v2.trans v3).trans v4).trans v5) hu55, hu66, ⟨Wn.rr, Pa.app (.cons hfxA .nil) Wn.tt, good, tg4, by omega, by simp only [List.length_append, List.length_cons, List.length_nil]; omega, by decide, Wn.tab⟩, by omega, fun t2' ws2 L4' Ho eo tabo ht2' hws2 F4 l4 => ?_⟩
      have ko := kn.extN eo tabo
      have Wo := Wl.up ko
      have hGo : Ho G = some (.lst [.ref t1']) := eo _ _ (v15 _ _ hG1) (fun _ z => by cases z)
      have sub4 : ∀ f ∈ L2, f ∈ L4' := fun f hf => F4.mem.mpr (Fc.mono (fun r hr => hr) (fun t h => List.mem_append.mpr (.inr h)) (F0.mem.mp hf))
      have gr4 := facts_gr F4 good tg4 (by decide)
      refine ⟨G, _, _, rfl, rfl, hGo, szs (show 1 < 100000 by decide), ?_⟩
      have kp := ko.mut (ys := [.ref t1'] ++ [.ref t2']) hG0 oG hGo
      have hGp : (upd Ho G (.lst ([.ref t1'] ++ [.ref t2']))) G = some (.lst ([.ref t1'] ++ [.ref t2'])) := upd_same
      have kop : Tk K Ho (upd Ho G (.lst ([.ref t1'] ++ [.ref t2']))) := Tk.xb hGo rfl Xb.upd
      have ht2p := kop _ _ ht2'
      have hws2p := TsA.up hws2 kop
      generalize upd Ho G (.lst ([.ref t1'] ++ [.ref t2'])) = Hp' at kp hGp kop ht2p hws2p ⊢
      have Wp := Wl.up kp
      -- one more height
      refine ⟨_, rfl, .inl ⟨rfl, _, .inl (.inl hGp)⟩, ?_⟩
      refine ⟨_, rfl, ru, rvs, rfl, .inl ⟨.inl (.inl Wp.ruh), fun u7 hu7 => ?_⟩⟩
      have w1 : Ex Hp' (upd Hp' u7 (.tup rvs)) := Ex.new hu7
      have hu77 : SqT K (upd Hp' u7 (.tup rvs)) u7 rvs := .inl (.inl upd_same)
      generalize upd Hp' u7 (.tup rvs) = Hq1 at w1 hu77 ⊢
      refine ⟨_, rfl, te, tvs, rfl, .inl ⟨.inl (.inl (w1 _ _ Wp.teh)), fun u8 hu8 => ?_⟩⟩
      have w2 : Ex Hq1 (upd Hq1 u8 (.tup tvs)) := Ex.new hu8
      have hu88 : SqT K (upd Hq1 u8 (.tup tvs)) u8 tvs := .inl (.inl upd_same)
      generalize upd Hq1 u8 (.tup tvs) = Hq at w2 hu88 ⊢
      have kq := kp.ex (w1.trans w2)
      have Wq := Wl.up kq
      refine ⟨_, rfl, _, _, rfl, rfl, u7, u8, h + 1, 3, _, rs, _, ts, rfl, Evl.ex_t w2 hu77, hu88, ⟨Wq.rr, Wq.tt, good, tg, by omega, by omega, by decide, Wq.tab⟩, by omega, fun t3' ws3 L5 Hr er tabr ht3' hws3 F5 l5 => ?_⟩
      have kr := kq.extN er tabr
      have Wr := Wl.up kr
      have hGr : Hr G = some (.lst ([.ref t1'] ++ [.ref t2'])) := er _ _ ((w1.trans w2) _ _ hGp) (fun _ z => by cases z)
      have sub5 : ∀ f ∈ L2, f ∈ L5 := fun f hf => F5.mem.mpr (Fc.up (F0.mem.mp hf))
      have gr5 := facts_gr F5 good tg (by decide)
      refine ⟨G, _, _, rfl, rfl, hGr, szs (show 2 < 100000 by decide), ?_⟩
      have ks := kr.mut (ys := [.ref t1'] ++ [.ref t2'] ++ [.ref t3']) hG0 oG hGr
      have hGs : (upd Hr G (.lst ([.ref t1'] ++ [.ref t2'] ++ [.ref t3']))) G = some (.lst ([.ref t1'] ++ [.ref t2'] ++ [.ref t3'])) := upd_same
      have krs : Tk K Hr (upd Hr G (.lst ([.ref t1'] ++ [.ref t2'] ++ [.ref t3']))) := Tk.xb hGr rfl Xb.upd
      have kpr : Tk K Hp' Hr := (Tk.ex (w1.trans w2)).trans (Tk.extN er)
      have ht3s := krs _ _ ht3'
      have hws3s := TsA.up hws3 krs
      have ht2s := (kpr.trans krs) _ _ ht2p
      have hws2s := TsA.up hws2p (kpr.trans krs)
      have kls : Tk K Hl (upd Hr G (.lst ([.ref t1'] ++ [.ref t2'] ++ [.ref t3']))) := ks.tk Wl.t
      have ht1s := kls _ _ ht1'
      have hws1s := TsA.up hws1 kls
      generalize upd Hr G (.lst ([.ref t1'] ++ [.ref t2'] ++ [.ref t3'])) = Hs at ks hGs krs ht3s hws3s ht2s hws2s kls ht1s hws1s ⊢
      have Ws := Wl.up ks
      have all : ∀ (i : Nat) (x : V), ([V.ref t1'] ++ [.ref t2'] ++ [.ref t3'])[i]? = some x → ∃ (b : Addr) (xs : List V) (M : List T), x = .ref b ∧ SqT K Hs b xs ∧ TsA K Hs xs M ∧ (∀ f ∈ L2, f ∈ M) ∧ ∀ f ∈ M, Gr 7 f := fun i x hx => by
        have hx' : ([V.ref t1', .ref t2', .ref t3'] : List V)[i]? = some x := hx
        have hi3 : i < 3 := (List.getElem?_eq_some_iff.mp hx').1
        have : i = 0 ∨ i = 1 ∨ i = 2 := by omega
        rcases this with rfl | rfl | rfl <;> (have hx' := Option.some.inj hx'; subst hx')
        · exact ⟨t1', ws1, L3, rfl, ht1s, hws1s, sub3, gr3⟩
        · exact ⟨t2', ws2, L4', rfl, ht2s, hws2s, sub4, gr4⟩
        · exact ⟨t3', ws3, L5, rfl, ht3s, hws3s, sub5, gr5⟩
      refine ⟨_, rfl, G, rfl, ⟨_, .inl (.inl hGs)⟩, ?_⟩
      refine for_list (xs := [.ref t1'] ++ [.ref t2'] ++ [.ref t3']) (fun i σ' H' => ∃ (y19 : Option V), σ' = [some (.ref a), some (.ref p), some (.ref sy), some (.ref re), some (.int n), some (.ref ru), some fv, some (.ref te), some (.int h), some (.ref due), some (.ref told), some (.ref NL), some (.ref o2), y13, y14, y15, some (.int r7), some (.int pl), some (.ref G), y19, none, none] ∧ Ex Hs H')
        ⟨none, rfl, Ex.refl _⟩ (fun i σ' H' _ h => by obtain ⟨_, _, e⟩ := h; exact .inl (.inl (e _ _ hGs))) ?_ ?_
      · rintro i x σ' H' hx ⟨y19, rfl, e⟩
        obtain ⟨b, xs, M, rfl, hb, hxs, hsub, hgr⟩ := all i x hx
        have hb' := Evl.ex_t e hb
        refine ⟨_, rfl, _, _, _, _, true, rfl, .ty "tuple", tyx_tup hb', kit_ty (by decide +kernel), true, rfl, iteF ?_⟩
        have hdu : SqT K H' due dvs := Evl.ex_t e Ws.du
        refine ⟨_, rfl, due, rfl, ⟨dvs, hdu⟩, fun D hD => ?_⟩
        have dvl := Pa.len Ws.dd
        refine lc_filt (fun t => !decide (t ∈ M)) (Ws.dd.up (Tk.ex e)) (ys_tup fun H'' e2 => Evl.ex_t e2 hdu) (by omega) (by intro _; rfl) ?_ (fun x H'' Qk qk => ⟨x, rfl, qk⟩) hD ?_
        · intro i2 x2 t H3 Qk hx2 ht hS2 e3 qk
          have tgr := Lg t (List.mem_of_getElem? ht)
          have := qk H3 (Ex.refl _)
          refine ⟨_, rfl, _, rfl, enc t, M.map enc, hS2.up (Tk.ex e3), dp_tuple (Evl.ex_t e3 hb') (TsA.up hxs (Tk.ex (e.trans e3))), enc_shaped tgr.1 (by decide), lay_all fun u hu => (hgr u hu).1, _, rfl, ?_⟩
          rw [any_eqv]
          exact this
        · intro H3 acc e3 hDa hk
          have : (L2.filter fun t => !decide (t ∈ M)) = [] := by
            rw [List.filter_eq_nil_iff]
            intro t ht
            simp [hsub t ht]
          rw [this] at hk
          cases hk
          refine ⟨D, [], rfl, .inl (.inl (.inl hDa)), _, _, rfl, rfl, _, rfl, ?_⟩
          refine iteF ?_
          exact ⟨_, rfl, e.trans e3⟩
      · rintro σ' H' ⟨y19, rfl, e⟩
        exact q H'

end
end Orl
set_option Elab.async false
set_option linter.all false
set_option maxRecDepth 100000
set_option maxHeartbeats 4000000
namespace Orl
open PySem PySem.Spec PyProof.Rows L2
section
variable {P : Program} {w : World} {K : PySem.W.Frag} {mg : Str → Option Value} {base h : Heap}
abbrev Sy (w : World) (h : Heap) (K : PySem.W.Frag) : Prop := He.SaysX faL fnL [] tfL exB w h K
theorem has {i j : Nat} {x : Str} {st : Stmt} {n k : Nat} {sp : Pr} (c : Sy w h K) (X : K.In h) (G : h.Ns mainGlobals mg) (hd : fnL[i]? = some (dOf x st)) (hf : faL[j]? = some (.glo x))
    (ok : FnP K x st (He.fAd K (x, none)) → FnG P w K mg base k (He.fAd K (x, none)) n sp) : Has P w K mg base k x n sp := by
  obtain ⟨fd, F⟩ := c.t.d.def_ i (d := dOf x st) hd
  exact ⟨He.fAd K (x, none), ok ⟨fd, F⟩, He.glo_ok X G (c.t.d.fact j (f := .glo x) hf), F.kp⟩
theorem code_of {x : Str} {st : Stmt} (F : FnP K x st (He.fAd K (x, none))) : ∀ oc od fd osl, K.lookup (He.fAd K (x, none)) = some ⟨oc, od, .func fd, osl⟩ → fd.code = .ref (He.codeOf K (x, none)) := by
  intro oc od fd osl lk
  obtain ⟨fd', F⟩ := F
  obtain ⟨oc', od', dV, kV, doc, pm, an, cdv, ct, osl', rfl, lk', hcd, _⟩ := F.ex
  rw [lk] at lk'
  injection lk' with e
  injection e with e1 e2 e3 e4
  injection e3 with e3
  subst e3
  obtain ⟨c', hc'⟩ := He.codeIn_ref hcd
  rw [He.codeOf_eq lk hc']
  exact hc'
theorem top (c : Sy w h K) (X : K.In h) (G : h.Ns mainGlobals mg) : Top mg :=
  ⟨He.free_ok X G (c.t.d.fact 38 (f := .free "isinstance") rfl), He.free_ok X G (c.t.d.fact 39 (f := .free "int") rfl), He.free_ok X G (c.t.d.fact 40 (f := .free "tuple") rfl), He.free_ok X G (c.t.d.fact 41 (f := .free "list") rfl), He.free_ok X G (c.t.d.fact 42 (f := .free "len") rfl), He.free_ok X G (c.t.d.fact 43 (f := .free "range") rfl), He.free_ok X G (c.t.d.fact 44 (f := .free "repr") rfl), He.free_ok X G (c.t.d.fact 45 (f := .free "sum") rfl), He.free_ok X G (c.t.d.fact 46 (f := .free "sorted") rfl), He.free_ok X G (c.t.d.fact 47 (f := .free "all") rfl), He.free_ok X G (c.t.d.fact 48 (f := .free "abs") rfl), He.free_ok X G (c.t.d.fact 49 (f := .free "max") rfl), He.free_ok X G (c.t.d.fact 50 (f := .free "str") rfl)⟩
theorem refl_ok (c : Sy w h K) (H : Hp) : RlA K H (.ref (reflA K)) rfl' := by
  have e := c.more
  unfold exB at e
  simp only [Bool.and_eq_true] at e
  obtain ⟨h1, h2, h3⟩ := e
  exact ⟨_, _, _, _, [], rfl, tupleB_ok h1 H, tupleB_ok h2 H, .nil, TA.app (f := "=") (vs := [.int 0, .int 0]) (ts := [.v 0, .v 0]) (tupleB_ok h3 H) (.cons (TA.var 0) (.cons (TA.var 0) .nil))⟩
theorem whole (c : Sy w h K) (X : K.In h) (G : h.Ns mainGlobals mg) (TB : LamX.TabB base mg (He.cT K ("with_refl", none)).1 (He.cT K ("with_refl", none)).2) : Has P w K mg base 10 "law" 1 (spLaw K (He.cT K ("with_refl", none)).2) := by
  have Tx := top c X G
  obtain ⟨tk, g_MOST⟩ := He.int_ok X G (c.t.d.fact 37 (f := .int "MOST_CHOICES" 600) rfl)
  have g_REFL : mg "REFL" = some (.ref (reflA K)) := He.glo_ok X G (c.t.d.fact 36 (f := .glo "REFL") rfl)
  have nv0 : Has P w K mg base 1 "note_variables" 2 (spNote K 0) := has (i := 0) (j := 0) c X G rfl rfl fun F => ok_note_variables F Tx 0 fun z => absurd z (by decide)
  have nv1 : Has P w K mg base 2 "note_variables" 2 (spNote K 1) := has (i := 0) (j := 0) c X G rfl rfl fun F => ok_note_variables F Tx 1 fun _ => nv0
  have nv2 : Has P w K mg base 3 "note_variables" 2 (spNote K 2) := has (i := 0) (j := 0) c X G rfl rfl fun F => ok_note_variables F Tx 2 fun _ => nv1
  have nv3 : Has P w K mg base 4 "note_variables" 2 (spNote K 3) := has (i := 0) (j := 0) c X G rfl rfl fun F => ok_note_variables F Tx 3 fun _ => nv2
  have vo : Has P w K mg base 5 "variables_of" 1 (spVarsOf K) := has (i := 1) (j := 1) c X G rfl rfl fun F => ok_variables_of F Tx nv3
  have rp0 : Has P w K mg base 1 "replaced" 2 (spRepl K 0) := has (i := 2) (j := 2) c X G rfl rfl fun F => ok_replaced F Tx 0 fun z => absurd z (by decide)
  have rp1 : Has P w K mg base 2 "replaced" 2 (spRepl K 1) := has (i := 2) (j := 2) c X G rfl rfl fun F => ok_replaced F Tx 1 fun _ => rp0
  have rp2 : Has P w K mg base 3 "replaced" 2 (spRepl K 2) := has (i := 2) (j := 2) c X G rfl rfl fun F => ok_replaced F Tx 2 fun _ => rp1
  have rp3 : Has P w K mg base 4 "replaced" 2 (spRepl K 3) := has (i := 2) (j := 2) c X G rfl rfl fun F => ok_replaced F Tx 3 fun _ => rp2
  have io : Has P w K mg base 5 "instance_of" 2 (spInst K 3) := has (i := 3) (j := 3) c X G rfl rfl fun F => ok_instance_of F Tx 3 rp3
  have pw : Has P w K mg base 1 "power" 2 spPower := has (i := 4) (j := 4) c X G rfl rfl fun F => ok_power F Tx
  have ch : Has P w K mg base 1 "choices" 2 (spChoi K true) := has (i := 5) (j := 5) c X G rfl rfl fun F => ok_choices F Tx
  have nb : Has P w K mg base 6 "numbered" 1 (spNumb K) := has (i := 6) (j := 6) c X G rfl rfl fun F => ok_numbered F Tx vo (rp3.mono (by decide))
  have nr : Has P w K mg base 7 "numbered_rule" 1 (spNumR K) := has (i := 7) (j := 7) c X G rfl rfl fun F => ok_numbered_rule F Tx nb
  have vcn : Has P w K mg base 6 "variable_count" 1 (spVc K) := has (i := 8) (j := 8) c X G rfl rfl fun F => ok_variable_count F Tx vo
  have wr : Has P w K mg base 1 "with_refl" 1 (spRefl K (He.cT K ("with_refl", none)).2) := has (i := 9) (j := 9) c X G rfl rfl fun F => ok_with_refl F Tx (code_of F) TB g_REFL (refl_ok c)
  have gi : Has P w K mg base 7 "ground_instances" 2 (spGround K (He.cT K ("with_refl", none)).2) := has (i := 10) (j := 10) c X G rfl rfl fun F => ok_ground_instances F Tx g_MOST (wr.mono (by decide)) (pw.mono (by decide)) vcn (ch.mono (by decide)) (io.mono (by decide))
  have fi : Has P w K mg base 8 "first_instances" 3 (spFirst K (He.cT K ("with_refl", none)).2) := has (i := 11) (j := 11) c X G rfl rfl fun F => ok_first_instances F Tx gi
  have fw : Has P w K mg base 9 "facts_within" 3 (spWithin K (He.cT K ("with_refl", none)).2) := has (i := 12) (j := 12) c X G rfl rfl fun F => ok_facts_within F Tx fi
  have tp : Has P w K mg base 1 "_law_tape" 1 (spTape K) := has (i := 13) (j := 13) c X G rfl rfl fun F => ok__law_tape F Tx
  have dr : Has P w K mg base 1 "_law_draw" 2 spDraw := has (i := 14) (j := 14) c X G rfl rfl fun F => ok__law_draw F Tx
  have wd : Has P w K mg base 2 "_law_word" 2 spWord := has (i := 15) (j := 15) c X G rfl rfl fun F => ok__law_word F Tx dr
  have sy : Has P w K mg base 3 "_law_symbols" 2 (spSymbols K) := has (i := 16) (j := 16) c X G rfl rfl fun F => ok__law_symbols F Tx (dr.mono (by decide)) wd
  have tm1 : Has P w K mg base 2 "_law_term" 4 (spTerm K 1) := has (i := 17) (j := 17) c X G rfl rfl fun F => ok__law_term F Tx 1 (by decide) (by decide) dr fun z => absurd z (by decide)
  have tm2 : Has P w K mg base 3 "_law_term" 4 (spTerm K 2) := has (i := 17) (j := 17) c X G rfl rfl fun F => ok__law_term F Tx 2 (by decide) (by decide) (dr.mono (by decide)) fun _ => tm1
  have lr0 : Has P w K mg base 1 "_law_replaced" 2 (spRepl K 0) := has (i := 18) (j := 18) c X G rfl rfl fun F => ok__law_replaced F Tx 0 fun z => absurd z (by decide)
  have lr1 : Has P w K mg base 2 "_law_replaced" 2 (spRepl K 1) := has (i := 18) (j := 18) c X G rfl rfl fun F => ok__law_replaced F Tx 1 fun _ => lr0
  have lr2 : Has P w K mg base 3 "_law_replaced" 2 (spRepl K 2) := has (i := 18) (j := 18) c X G rfl rfl fun F => ok__law_replaced F Tx 2 fun _ => lr1
  have lr3 : Has P w K mg base 4 "_law_replaced" 2 (spRepl K 3) := has (i := 18) (j := 18) c X G rfl rfl fun F => ok__law_replaced F Tx 3 fun _ => lr2
  have lc0 : Has P w K mg base 1 "_law_collect" 2 (spColl K 0) := has (i := 19) (j := 19) c X G rfl rfl fun F => ok__law_collect F Tx 0 fun z => absurd z (by decide)
  have lc1 : Has P w K mg base 2 "_law_collect" 2 (spColl K 1) := has (i := 19) (j := 19) c X G rfl rfl fun F => ok__law_collect F Tx 1 fun _ => lc0
  have lc2 : Has P w K mg base 3 "_law_collect" 2 (spColl K 2) := has (i := 19) (j := 19) c X G rfl rfl fun F => ok__law_collect F Tx 2 fun _ => lc1
  have lc3 : Has P w K mg base 4 "_law_collect" 2 (spColl K 3) := has (i := 19) (j := 19) c X G rfl rfl fun F => ok__law_collect F Tx 3 fun _ => lc2
  have lv : Has P w K mg base 5 "_law_variables" 1 (spVars K) := has (i := 20) (j := 20) c X G rfl rfl fun F => ok__law_variables F Tx lc3
  have ln : Has P w K mg base 6 "_law_numbered" 1 (spNumL K) := has (i := 21) (j := 21) c X G rfl rfl fun F => ok__law_numbered F Tx lv (lr3.mono (by decide))
  have sz0 : Has P w K mg base 1 "_law_size" 1 (spSize K 0) := has (i := 22) (j := 22) c X G rfl rfl fun F => ok__law_size F Tx 0 (by decide) fun z => absurd z (by decide)
  have sz1 : Has P w K mg base 2 "_law_size" 1 (spSize K 1) := has (i := 22) (j := 22) c X G rfl rfl fun F => ok__law_size F Tx 1 (by decide) fun _ => sz0
  have sz2 : Has P w K mg base 3 "_law_size" 1 (spSize K 2) := has (i := 22) (j := 22) c X G rfl rfl fun F => ok__law_size F Tx 2 (by decide) fun _ => sz1
  have sz3 : Has P w K mg base 4 "_law_size" 1 (spSize K 3) := has (i := 22) (j := 22) c X G rfl rfl fun F => ok__law_size F Tx 3 (by decide) fun _ => sz2
  have sz4 : Has P w K mg base 5 "_law_size" 1 (spSize K 4) := has (i := 22) (j := 22) c X G rfl rfl fun F => ok__law_size F Tx 4 (by decide) fun _ => sz3
  have al : Has P w K mg base 1 "_law_alike" 2 (spAlike K) := has (i := 23) (j := 23) c X G rfl rfl fun F => ok__law_alike F Tx
  have nm : Has P w K mg base 3 "_law_names" 2 spNames := has (i := 24) (j := 24) c X G rfl rfl fun F => ok__law_names F Tx (dr.mono (by decide)) wd
  have at_ : Has P w K mg base 4 "_law_atom" 5 (spAtom K) := has (i := 25) (j := 25) c X G rfl rfl fun F => ok__law_atom F Tx (dr.mono (by decide)) (tm1.mono (by decide)) tm2
  have tb : Has P w K mg base 1 "_law_table" 1 (spTable K) := has (i := 26) (j := 26) c X G rfl rfl fun F => ok__law_table F Tx
  have lch : Has P w K mg base 1 "_law_choices" 2 (spChoi K false) := has (i := 27) (j := 27) c X G rfl rfl fun F => ok__law_choices F Tx
  have un : Has P w K mg base 6 "_law_universe" 3 (spUniv K) := has (i := 28) (j := 28) c X G rfl rfl fun F => ok__law_universe F Tx (dr.mono (by decide)) ((sz1.mono (by decide)).or sz4)
  have ro : Has P w K mg base 7 "_law_rule_over" 7 (spRule K true) := has (i := 33) (j := 33) c X G rfl rfl fun F => ok__law_rule_over F Tx (dr.mono (by decide)) (tm2.mono (by decide)) (at_.mono (by decide)) ln
  have ru : Has P w K mg base 8 "_law_rule" 6 (spRule K false) := has (i := 34) (j := 34) c X G rfl rfl fun F => ok__law_rule F Tx ro
  have rs : Has P w K mg base 9 "_law_rules" 4 (spRules K) := has (i := 29) (j := 29) c X G rfl rfl fun F => ok__law_rules F Tx (dr.mono (by decide)) (nm.mono (by decide)) ru
  have re : Has P w K mg base 3 "_law_relations" 2 (spRelations K) := has (i := 30) (j := 30) c X G rfl rfl fun F => ok__law_relations F Tx (dr.mono (by decide)) wd
  have ll : Has P w K mg base 6 "_law_levels" 3 (spLevels K) := has (i := 31) (j := 31) c X G rfl rfl fun F => ok__law_levels F Tx (lch.mono (by decide)) lv (tb.mono (by decide)) (lr3.mono (by decide))
  have lf : Has P w K mg base 7 "_law_facts" 3 (spFactsL K) := has (i := 32) (j := 32) c X G rfl rfl fun F => ok__law_facts F Tx ll
  exact has (i := 35) (j := 35) c X G rfl rfl fun F => ok_law F Tx (tp.mono (by decide)) (dr.mono (by decide)) (sy.mono (by decide)) (re.mono (by decide)) rs (un.mono (by decide)) (lf.mono (by decide)) fw (al.mono (by decide)) (nm.mono (by decide)) (lr3.mono (by decide)) (nr.mono (by decide))
end
theorem facts {P : Program} {w : World} {K : PySem.W.Frag} {h : Heap} {mg : Str → Option Value} {fa : Addr} (X : K.In h) (G : h.Ns mainGlobals mg) (hfa : mg ("law" : Str) = some (.ref fa)) (c : Sy w h K) :
    ∀ base : Heap, LamX.TabB base mg (He.cT K ("with_refl", none)).1 (He.cT K ("with_refl", none)).2 → FnG P w K mg base 10 fa 1 (spLaw K (He.cT K ("with_refl", none)).2) := by
  intro base TB
  obtain ⟨f, F, hm, _⟩ := (whole (P := P) (base := base) c X G TB).ex
  rw [hfa] at hm
  have e := Option.some.inj hm
  injection e with e
  subst e
  exact F
end Orl
open PySem PySem.W PySem.Calls PyProof.Rows
theorem PySem.Challenge.cw_openrules_k21_whole_more_rules_more_fact_holds : PySem.Challenge.rw_openrules_k21_whole_more_rules_more_fact.Holds := by
  w_on; o_law
  refine HandSHeadRun.head_any (r := OpenLaw.row PySem.Challenge.rw_openrules_k21_whole_more_rules_more_fact) (q := view (OpenLaw.row PySem.Challenge.rw_openrules_k21_whole_more_rules_more_fact).prog [44]) (H := Orl.hkL) (ob := Orl.obL) (M := 4000) (loose := Orl.loose) (d := HandSHeadRun.topDef (OpenLaw.row PySem.Challenge.rw_openrules_k21_whole_more_rules_more_fact).prog 44) (kwd := []) Orl.obL_eq
    (by kernel_rfl) (fun s => by kernel_rfl) Orl.run (by kernel_rfl) (by kernel_rfl) (by kernel_rfl) (by rfl) (by first | assumption | decide +kernel) (by decide +kernel) ⟨rfl, rfl, rfl, rfl, rfl, by decide +kernel⟩ ?hw ?hc
  case hw => w_witness2
  case hc =>
    refine Orl.walk_own (l := PySem.Challenge.rw_openrules_k21_whole_more_rules_more_fact) (n := 63) (k := 10) rfl (by decide) (by kernel_rfl) ⟨rfl, by decide, by decide⟩ ?F
    intro w mg fa h Y G hmg0
    obtain ⟨K, KX, c⟩ := Y
    have hmg : mg ("law" : PySem.Str) = some (.ref fa) := by
      have e : (HandSHeadRun.topDef (OpenLaw.row PySem.Challenge.rw_openrules_k21_whole_more_rules_more_fact).prog 44).name = ("law" : PySem.Str) := by kernel_rfl
      rw [← e]
      exact hmg0
    have hp : (("with_refl", none) : He.Defn) ∈ Orl.tfL := List.mem_singleton.mpr rfl
    have c' : Orl.Sy w h K := c
    refine ⟨K, (He.cT K ("with_refl", none)).1, (He.cT K ("with_refl", none)).2, Orl.spLaw K (He.cT K ("with_refl", none)).2, KX, c'.empty _ hp, c'.out _ hp, PySem.W.codeHd_of_K KX (c'.hd _ hp), fun H a ns hl hT hS => ⟨a, ns, rfl, hS, fun z hz => ?_, fun _ => rfl⟩, fun base _ _ TB => Orl.facts KX G hmg c' base TB⟩
    rw [List.mem_singleton.mp hz]
    exact LamX.TabS.nil hT
