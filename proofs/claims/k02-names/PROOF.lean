import PyProof.Rows.All
import Wide.All
import OpenK.AllK
import Wide.FinOn
import HandS.ForMost
import HandS.ForExc
import HandS.IsInst
import HandS.Walk
import HandS.Strs
import HandS.Sort
import HandS.Wide
import HandS.Codes
import PySem.Challenge.RW_keptcode_k02_names_and_codewords
set_option Elab.async false
set_option linter.all false
set_option maxRecDepth 100000
set_option maxHeartbeats 4000000
namespace Kc
open PySem PySem.Spec L2
open PyProof.Rows hiding St
open C8 (tCut pss_cut)
open TL
/-! ### a def of the top, by its name -/
structure At (K : PySem.W.Frag) (mg : Str → Option Value) (x qual : Str) (st : Stmt) : Prop where
  ex : ∃ f fd, Fun K x qual st f fd ∧ mg x = some (.ref f)
structure DefOk (P : Program) (w : World) (K : PySem.W.Frag) (mg : Str → Option Value) (base : Heap) (k : Nat) (x : Str) (ps : List Str) (sp : Sp) : Prop where
  ex : ∃ f fd, FnOk P w K mg base (L2.CX P w) k f fd ps sp ∧ mg x = some (.ref f) ∧ PySem.W.keepIn K (.ref f) = true ∧ Binds K fd ps [] ∧ ∃ oc od osl, K.lookup f = some ⟨oc, od, .func fd, osl⟩
section
variable {P : Program} {w : World} {K : PySem.W.Frag} {mg : Str → Option Value} {base : Heap}
theorem DefOk.of {x : Str} {st : Stmt} {N ps : List Str} {k : Nat} {sp : Sp} (F : At K mg x x st) (S : FnScope N ps (defScope st))
    (hb : ∀ (kV doc pm : Value) (an : Option Addr) (cdv ct : Value) (us : List Value), us.length = ps.length → bindArgs (PySem.W.fnOf x x (defArgs st) (defBody st) (defScope st) .none kV doc pm an cdv ct) ⟨us, []⟩ = pure (ps.zip us))
    (len : ∀ vs H Q E, sp vs H Q E → vs.length = ps.length)
    (hbody : ∀ (f : Addr) (cdv : Value) (A : Around) (outer : List Env) (s : Shared) (H : Hp) (vs : List V) (Q : VK) (E : XK), Room k (A.deeper (envOfC x (defScope st) s.heap.objs.size f cdv)) → sp vs H Q E →
      ∃ t, PSs (cxOf (L2.CX P w) P w K mg base N x (defScope st) f cdv A outer s H E) (defBody st) t ∧ t { nx := fun _ H' => Q .non H', rt := Q } (start N vs) H) : DefOk P w K mg base (k + 1) x ps sp := by
  obtain ⟨f, fd, F, g⟩ := F.ex
  have F' := F
  obtain ⟨oc, od, kV, doc, pm, an, cdv, ct, osl, e, lk, _⟩ := F'.ex
  exact ⟨f, fd, F.okX S len (hbody f), g, F.kp, F.binds hb, oc, od, osl, lk⟩
theorem DefOk.mono {x : Str} {ps : List Str} {j k : Nat} {sp : Sp} (D : DefOk P w K mg base j x ps sp) (h : j ≤ k) : DefOk P w K mg base k x ps sp := by
  obtain ⟨f, fd, F, r⟩ := D.ex
  exact ⟨f, fd, F.mono h, r⟩
theorem DefOk.imp {x : Str} {ps : List Str} {k : Nat} {sp sp' : Sp} (D : DefOk P w K mg base k x ps sp) (h : ∀ vs H Q E, sp' vs H Q E → sp vs H Q E) : DefOk P w K mg base k x ps sp' := by
  obtain ⟨f, fd, F, r⟩ := D.ex
  exact ⟨f, fd, F.imp h, r⟩
end
section
variable {X : Cx} {k : Nat} {ps : List Str} {sp : Sp} {E : XK} {x : Str} {p pos : Pos} {e : Expr} {es : List Expr} {t : TA}
theorem pe_callD (D : DefOk X.prog X.w X.K X.mg X.base k x ps sp) (hr : Room k X.A) (hx : Passes (L2.CX X.prog X.w) X E) (ha : PA X (e :: es) t) (hg : Gl X x := by rfl) (hdb : (x == ("__debug__" : Str)) = false := by decide)
    (he : starEach (e :: es) X.env = (false, eval e X.env) :: starEach es X.env := by rfl) (hpl : (backTo pos (starEach es X.env)).any (·.1) = false := by rfl) :
    PE X (.Call (.Name x p) (e :: es) [] pos) (tCall sp [] E t) := by
  obtain ⟨f, fd, F, g, kp, b, _⟩ := D.ex
  exact pe_call F hr hg g kp b .nil hx ha hdb he hpl
theorem pe_callD0 (D : DefOk X.prog X.w X.K X.mg X.base k x ps sp) (hr : Room k X.A) (hx : Passes (L2.CX X.prog X.w) X E) (hg : Gl X x := by rfl) (hdb : (x == ("__debug__" : Str)) = false := by decide) :
    PE X (.Call (.Name x p) [] [] pos) (tCall sp [] E tNil) := by
  obtain ⟨f, fd, F, g, kp, b, _⟩ := D.ex
  exact pe_call0 F hr hg g kp b .nil hx hdb
end

/-- a module's constant -/
theorem pe_gs {X : Cx} {x : Str} {z : Str} {pos : Pos} (hm : ∃ t, X.mg x = some (.str z t)) (hg : Gl X x := by rfl) (hd : (x == ("__debug__" : Str)) = false := by decide) : PE X (.Name x pos) (tC (.str z)) := by
  obtain ⟨t, hm⟩ := hm
  exact pe_glob hg hm ⟨t, rfl⟩ hd
theorem pe_gi {X : Cx} {x : Str} {i : Int} {pos : Pos} (hm : ∃ t, X.mg x = some (.int i t)) (hg : Gl X x := by rfl) (hd : (x == ("__debug__" : Str)) = false := by decide) : PE X (.Name x pos) (tC (.int i)) := by
  obtain ⟨t, hm⟩ := hm
  exact pe_glob hg hm ⟨t, rfl⟩ hd

/-- a built-in class as a value -/
theorem pe_ty {X : Cx} (n : String) {pos : Pos} (hm : X.mg (Str.ofString n) = none) (hv : bootBuiltins (Str.ofString n) = some (.type n)) (hg : Gl X (Str.ofString n) := by rfl) (hn : (Str.ofString n) ≠ "__name__" := by decide) (hd : ((Str.ofString n) == ("__debug__" : Str)) = false := by decide) :
    PE X (.Name (Str.ofString n) pos) (tC (.ty n)) := pe_bltn hg hm hv rfl hn hd

/-! ### the end -/
theorem at_mk {K : PySem.W.Frag} {h : Heap} {mg : Str → Option Value} (X : K.In h) (G : h.Ns mainGlobals mg) {x qual : Str} {st : Stmt} {f : Addr} {oc : Value} {od an : Option Addr} {osl : Array (Option Value)} {kV doc pm cdv ct : Value}
    (a : PySem.W.nsIn K mainGlobals x = some (some (.ref f))) (l : K.lookup f = some ⟨oc, od, .func (PySem.W.fnOf x qual (defArgs st) (defBody st) (defScope st) .none kV doc pm an cdv ct), osl⟩)
    (c : PySem.W.codeIn K cdv qual = true) (k : PySem.W.keepIn K (.ref f) = true) : At K mg x qual st := ⟨f, _, fun_mk l c k, PySem.W.mg_of X G a⟩
theorem DefOk.at {P : Program} {w : World} {K : PySem.W.Frag} {mg : Str → Option Value} {base : Heap} {k : Nat} {x : Str} {ps : List Str} {sp : Sp} (D : DefOk P w K mg base k x ps sp) {f : Addr} {fd : FuncData} {oc : Value} {od : Option Addr} {osl : Array (Option Value)}
    (g : mg x = some (.ref f)) (l : K.lookup f = some ⟨oc, od, .func fd, osl⟩) : FnOk P w K mg base (L2.CX P w) k f fd ps sp := by
  obtain ⟨f', fd', F, g', _, _, oc', od', osl', l'⟩ := D.ex
  rw [g] at g'
  cases g'
  rw [l] at l'
  cases l'
  exact F
theorem cx_no {P : Program} {w : World} {H : Hp} {s : Shared} {e : Value} {s' : Shared} (h : L2.CX P w [] H s (fun _ _ _ => False) e s') : False := by
  obtain ⟨_, _, _, _, _, _, _, _, _, _, _, _, z⟩ := h
  exact z.elim

theorem walk_law {l : PySem.W.OpenLaw} {q : Program} {loose : List Str} {XP : (Str → Option Value) → Heap → Prop} {YP : World → Heap → Prop} {d : DefRec} {K : Params → PySem.W.Frag} (k : Nat) (sp : PySem.W.Frag → Sp) (hn : l.most = some 63) (hdf : d.params.defaults = []) (hr : Room k callerA)
    (hY : ∀ (w : World) (h : Heap), YP w h → (K w.params).In h)
    (hsp : ∀ (K : PySem.W.Frag) (H : Hp) (a : Addr) (ns : List Int), ns.length ≤ 63 → SqL K H a (ns.map V.int) → sp K [.ref a] H (fun v _ => v = .bl true) fun _ _ _ => False)
    (F : ∀ (w : World) (mg : Str → Option Value) (fa : Addr) (h : Heap), (K w.params).In h → h.Ns mainGlobals mg → mg d.name = some (.ref fa) →
      ∃ fd : FuncData, (∀ (s : Shared) (u : Value), BindsTo s fd ⟨[u], []⟩ [("script", u)]) ∧ ∀ base : Heap, (K w.params).In base → base.Ns mainGlobals mg → FnOk l.prog w (K w.params) mg base (L2.CX l.prog w) k fa fd ["script"] (sp (K w.params))) :
    PySem.W.WalkO q loose XP YP l.row.toRowW d [] (fun f vs => PySem.call f vs) :=
  L2.walk_of (n := 63) (k := k) (x := "script") (CX := fun w => L2.CX l.prog w) (sp := fun w => sp (K w.params)) hn (by decide) hdf hr hY F (fun w H a ns hl _ hS => hsp _ H a ns hl hS) fun _ _ _ _ _ z => cx_no z

/-! ### heaps but for some places -/
def wo (S : List Addr) (H : Hp) : Hp := fun b => if b ∈ S then none else H b
abbrev Kp (S : List Addr) (H H' : Hp) : Prop := Same (wo S H) (wo S H')
theorem wo_some {S : List Addr} {H : Hp} {b : Addr} {o : HO} (h : wo S H b = some o) : b ∉ S ∧ H b = some o := by
  unfold wo at h
  by_cases q : b ∈ S
  · rw [if_pos q] at h; cases h
  · rw [if_neg q] at h; exact ⟨q, h⟩
theorem wo_of {S : List Addr} {H : Hp} {b : Addr} {o : HO} (q : b ∉ S) (h : H b = some o) : wo S H b = some o := by
  unfold wo; rw [if_neg q]; exact h
theorem wo_same (S : List Addr) (H : Hp) : Same (wo S H) H := fun _ _ h => (wo_some h).2
theorem same_wo {H H' : Hp} (h : Same H H') (S : List Addr) : Kp S H H' := fun _ _ q => wo_of (wo_some q).1 (h _ _ (wo_some q).2)
theorem kp_at {S : List Addr} {H H' : Hp} (h : Kp S H H') {b : Addr} {o : HO} (q : b ∉ S) (e : H b = some o) : H' b = some o := (wo_some (h b o (wo_of q e))).2
theorem kp_upd {S : List Addr} {H : Hp} {p : Addr} {o : HO} (hp : p ∈ S) : Kp S H (upd H p o) := fun b u q => by
  obtain ⟨h1, h2⟩ := wo_some q
  exact wo_of h1 (by rw [upd_ne (fun z => h1 (by rw [z]; exact hp))]; exact h2)
theorem same_upd {H : Hp} {p : Addr} {o : HO} (hp : H p = none) : Same H (upd H p o) := fun b u q => by
  rw [upd_ne (ne_of_none q hp)]; exact q
/-- a place that is new to the one heap may be written in a later one -/
theorem same_put {H H' : Hp} (h : Same H H') {p : Addr} {o : HO} (hp : H p = none) : Same H (upd H' p o) := fun b u q => by
  rw [upd_ne (ne_of_none q hp)]; exact h b u q
theorem kp_put {S : List Addr} {H H' : Hp} (h : Kp S H H') {p : Addr} {o : HO} (hp : p ∈ S) : Kp S H (upd H' p o) := h.trans (kp_upd hp)
theorem kp_new {S : List Addr} {H H' : Hp} (h : Kp S H H') {p : Addr} {o : HO} (hp : H p = none) : Kp S H (upd H' p o) := fun b u q => by
  obtain ⟨h1, h2⟩ := wo_some q
  exact wo_of h1 (by rw [upd_ne (ne_of_none h2 hp)]; exact (wo_some (h b u q)).2)

/-- all but p is as it was; then a place that was new to the first heap is written -/
theorem kp_kp {S : List Addr} {H H1 H2 : Hp} {D : Addr} (s : Kp S H H1) (hD : H D = none) (k : Kp [D] H1 H2) : Kp S H H2 := fun b u q => by
  obtain ⟨h1, h2⟩ := wo_some q
  have h3 := kp_at s h1 h2
  exact wo_of h1 (kp_at k (by simpa using ne_of_none h2 hD) h3)

/-! ### the walk of a pure comprehension: what was tracked stands, the new list holds what each turn gives -/
theorem range_fm {r : Nat → Option V} {n : Nat} : (List.range (n + 1)).filterMap r = (List.range n).filterMap r ++ (match r n with | some y => [y] | none => []) := by
  rw [List.range_succ, List.filterMap_append]
  cases e : r n with
  | none => simp [e]
  | some y => simp [e]
theorem lc_pure {J : It} {n : Nat} {G : Hp → Prop} {Y : Nat → Hp → V → Hp → Prop} (w : Walk J n G Y) {g : TG} {tt : TT} {te : TE} {vs : List Nat} {σ : St} {H1 : Hp} {D : Addr} {Qd : Hp → Prop} (r : Nat → Option V)
    (hn : n ≤ 1000000) (hD : H1 D = none) (hG : ∀ H, Same H1 H → G H) (hY : ∀ i H x H', Y i H x H' → Same H H')
    (hs : ∀ i x H H' (Ky : V → Hp → Prop) (Kn : Hp → Prop), i < n → Same H1 H → Y i H x H' → (∀ y H4, Same H' H4 → r i = some y → Ky y H4) → (∀ H3, Same H' H3 → r i = none → Kn H3) →
      g x (wipe σ vs) H' fun σ2 H2 => wipe σ2 vs = wipe σ vs ∧ tt σ2 H2 fun b H3 => if b = true then te σ2 H3 Ky else Kn H3)
    (hd : ∀ H', Same H1 H' → H' D = some (.lst ((List.range n).filterMap r)) → Qd H') :
    ∃ W : Nat → Nat → Hp → Prop, (∃ m, W 0 m (upd H1 D (.lst []))) ∧ ∀ i m H, W i m H →
      (J.stop i H ∧ Qd H) ∨ (J.go i H ∧ ∃ Nx : Hp → Prop, (∀ H', Nx H' → ∃ m', m' < m ∧ W (i + 1) m' H') ∧ ∀ x H', J.yld i H x H' → g x (wipe σ vs) H' fun σ2 H2 => wipe σ2 vs = wipe σ vs ∧ tt σ2 H2 fun b H3 =>
        if b = true then te σ2 H3 fun y H4 => ∃ acc, H4 D = some (.lst acc) ∧ acc.length < sizeLine ∧ Nx (upd H4 D (.lst (acc ++ [y]))) else Nx H3) := by
  refine lc_it w (fun i H => Same H1 H ∧ H D = some (.lst ((List.range i).filterMap r))) ⟨same_upd hD, upd_same⟩ (fun i H _ h => hG H h.1) ?_ (fun H h => hd H h.1 h.2)
  rintro i x H H' hi ⟨s1, eD⟩ y
  have s2 := hY _ _ _ _ y
  refine hs i x H H' _ _ hi s1 y (fun v H4 s4 e => ?_) (fun H3 s3 e => ?_)
  · refine ⟨_, s4 _ _ (s2 _ _ eD), ?_, same_put (s1.trans (s2.trans s4)) hD, ?_⟩
    · have h1 := List.length_filterMap_le r (List.range i)
      rw [List.length_range] at h1
      have h2 : (sizeLine : Nat) = 16777216 := sizeLine_eq
      omega
    · rw [upd_same, range_fm, e]
  · refine ⟨s1.trans (s2.trans s3), ?_⟩
    rw [range_fm, e, List.append_nil]
    exact s3 _ _ (s2 _ _ eD)

/-! ### any object -/
/-- a text of a size that the model counts, of code points -/
def okS (x : Str) : Prop := x.length ≤ 1000 ∧ PyData.strOk x = true
def okK : Key → Prop
  | .inl _ => True
  | .inr x => okS x
inductive AnyV (H : Hp) : V → Prop where
  | non : AnyV H .non
  | bl (b : Bool) : AnyV H (.bl b)
  | int (i : Int) : AnyV H (.int i)
  | str (x : Str) (hx : okS x) : AnyV H (.str x)
  | lst {a : Addr} {xs : List V} (h : H a = some (.lst xs)) (hx : ∀ x ∈ xs, AnyV H x) : AnyV H (.ref a)
  | tup {a : Addr} {xs : List V} (h : H a = some (.tup xs)) (hx : ∀ x ∈ xs, AnyV H x) : AnyV H (.ref a)
  | dK {a : Addr} {kvs : List (Key × V)} (h : H a = some (.dK kvs)) (hk : ∀ kv ∈ kvs, okK kv.1) (hx : ∀ kv ∈ kvs, AnyV H kv.2) : AnyV H (.ref a)
theorem AnyV.keep {H H' : Hp} {v : V} (s : Same H H') (h : AnyV H v) : AnyV H' v := by
  induction h with
  | non => exact .non
  | bl b => exact .bl b
  | int i => exact .int i
  | str x hx => exact .str x hx
  | lst h _ ih => exact .lst (s _ _ h) ih
  | tup h _ ih => exact .tup (s _ _ h) ih
  | dK h hk _ ih => exact .dK (s _ _ h) hk ih
theorem AnyV.of_wo {S : List Addr} {H : Hp} {v : V} (h : AnyV (wo S H) v) : AnyV H v := h.keep (wo_same S H)
theorem AnyV.okS {H : Hp} {x : Str} (h : AnyV H (.str x)) : okS x := by
  cases h with
  | str _ hx => exact hx
/-- what is tracked in H' and was not in H -/
def nw (H H' : Hp) : Hp := fun b => match H b with | none => H' b | some _ => none
theorem nw_some {H H' : Hp} {b : Addr} {o : HO} (h : nw H H' b = some o) : H b = none ∧ H' b = some o := by
  unfold nw at h
  split at h
  · exact ⟨by assumption, h⟩
  · cases h
theorem nw_at {H H' : Hp} {b : Addr} {o : HO} (h0 : H b = none) (h : H' b = some o) : nw H H' b = some o := by
  unfold nw
  rw [h0]
  exact h
theorem nw_same (H H' : Hp) : Same (nw H H') H' := fun _ _ h => (nw_some h).2
theorem nw_mono {H H1 H2 : Hp} (s : Same H1 H2) : Same (nw H H1) (nw H H2) := fun _ _ h => nw_at (nw_some h).1 (s _ _ (nw_some h).2)
theorem nw_kp {S : List Addr} {H H1 H2 : Hp} (hS : ∀ b ∈ S, ∃ o, H b = some o) (k : Same (wo S H1) (wo S H2)) : Same (nw H H1) (nw H H2) := fun b o h => by
  obtain ⟨h1, h2⟩ := nw_some h
  refine nw_at h1 (kp_at k (fun q => ?_) h2)
  obtain ⟨u, e⟩ := hS b q
  rw [h1] at e; cases e
/-- all that is tracked in H is tracked in H2 -/
def Dom (H H2 : Hp) : Prop := ∀ b o, H b = some o → ∃ o', H2 b = some o'
theorem Dom.of_same {H H2 : Hp} (s : Same H H2) : Dom H H2 := fun b o h => ⟨o, s b o h⟩
theorem Dom.trans {H H1 H2 : Hp} (a : Dom H H1) (b : Dom H1 H2) : Dom H H2 := fun c o h => by
  obtain ⟨u, e⟩ := a c o h
  exact b c u e
theorem Dom.of_kp {S : List Addr} {H H2 : Hp} (k : Same (wo S H) (wo S H2)) (hS : ∀ b ∈ S, ∃ o, H2 b = some o) : Dom H H2 := fun b o h => by
  by_cases q : b ∈ S
  · exact hS b q
  · exact ⟨o, kp_at k q h⟩
theorem nw_dom {H H2 H4 : Hp} (d : Dom H H2) : Same (nw H2 H4) (nw H H4) := fun b o h => by
  obtain ⟨h1, h2⟩ := nw_some h
  refine nw_at ?_ h2
  cases e : H b with
  | none => rfl
  | some u =>
    obtain ⟨u', e'⟩ := d b u e
    rw [h1] at e'; cases e'
def isS : V → Bool | .str _ => true | _ => false
def isI : V → Bool | .int _ => true | .bl _ => true | _ => false
def isB : V → Bool | .bl _ => true | _ => false
section
variable {K : PySem.W.Frag} {H : Hp} {v : V} {Q : VK}
theorem isi_of {T n : String} {b : Bool} (ty : TyX K H v (.type T)) (k : kitB T n = some b) (q : Q (.bl b) H) : rIsi K [v, .ty n] H Q := ⟨_, _, _, _, _, rfl, .ty n, ty, kit_ty k, q⟩
theorem isi_str (h : AnyV H v) (q : Q (.bl (isS v)) H) : rIsi K [v, .ty "str"] H Q := by
  cases h with
  | non => exact isi_of (.base (.non)) (show kitB "NoneType" "str" = some false by decide +kernel) q
  | bl b => exact isi_of (.base (.bl b)) (show kitB "bool" "str" = some false by decide +kernel) q
  | int i => exact isi_of (.base (.int i)) (show kitB "int" "str" = some false by decide +kernel) q
  | str x _ => exact isi_of (.base (.str x)) (show kitB "str" "str" = some true by decide +kernel) q
  | lst h _ => exact isi_of (.base (.lst h)) (show kitB "list" "str" = some false by decide +kernel) q
  | tup h _ => exact isi_of (.base (.tup h)) (show kitB "tuple" "str" = some false by decide +kernel) q
  | dK h _ _ => exact isi_of (.base (.dK h)) (show kitB "dict" "str" = some false by decide +kernel) q
theorem isi_int (h : AnyV H v) (q : Q (.bl (isI v)) H) : rIsi K [v, .ty "int"] H Q := by
  cases h with
  | non => exact isi_of (.base (.non)) (show kitB "NoneType" "int" = some false by decide +kernel) q
  | bl b => exact isi_of (.base (.bl b)) (show kitB "bool" "int" = some true by decide +kernel) q
  | int i => exact isi_of (.base (.int i)) (show kitB "int" "int" = some true by decide +kernel) q
  | str x _ => exact isi_of (.base (.str x)) (show kitB "str" "int" = some false by decide +kernel) q
  | lst h _ => exact isi_of (.base (.lst h)) (show kitB "list" "int" = some false by decide +kernel) q
  | tup h _ => exact isi_of (.base (.tup h)) (show kitB "tuple" "int" = some false by decide +kernel) q
  | dK h _ _ => exact isi_of (.base (.dK h)) (show kitB "dict" "int" = some false by decide +kernel) q
theorem isi_bool (h : AnyV H v) (q : Q (.bl (isB v)) H) : rIsi K [v, .ty "bool"] H Q := by
  cases h with
  | non => exact isi_of (.base (.non)) (show kitB "NoneType" "bool" = some false by decide +kernel) q
  | bl b => exact isi_of (.base (.bl b)) (show kitB "bool" "bool" = some true by decide +kernel) q
  | int i => exact isi_of (.base (.int i)) (show kitB "int" "bool" = some false by decide +kernel) q
  | str x _ => exact isi_of (.base (.str x)) (show kitB "str" "bool" = some false by decide +kernel) q
  | lst h _ => exact isi_of (.base (.lst h)) (show kitB "list" "bool" = some false by decide +kernel) q
  | tup h _ => exact isi_of (.base (.tup h)) (show kitB "tuple" "bool" = some false by decide +kernel) q
  | dK h _ _ => exact isi_of (.base (.dK h)) (show kitB "dict" "bool" = some false by decide +kernel) q
end
theorem isS_or (v : V) : (∃ x, v = .str x) ∨ isS v = false := by
  cases v <;> simp [isS]
theorem isS_iff {v : V} : isS v = true ↔ ∃ x, v = .str x := by
  cases v <;> simp [isS]

/-! ### what the draws read and write -/
/-- the list of draws, at p: its numbers stand at l, its index is at most b -/
structure PenAt (b : Nat) (p l : Addr) (H : Hp) : Prop where
  ex : ∃ (ns : List Int) (idx rest : Int), H p = some (.lst [.ref l, .int idx, .int rest]) ∧ H l = some (.lst (ns.map V.int)) ∧ 0 ≤ idx ∧ idx ≤ (b : Int) ∧ 0 ≤ rest ∧ l ≠ p
theorem PenAt.keep {b : Nat} {p l : Addr} {H H' : Hp} (h : PenAt b p l H) (s : Same H H') : PenAt b p l H' := by
  obtain ⟨ns, idx, rest, h1, h2, r⟩ := h.ex
  exact ⟨ns, idx, rest, s _ _ h1, s _ _ h2, r⟩
theorem PenAt.kp {b : Nat} {p l D : Addr} {H H' : Hp} (h : PenAt b p l H) (h1 : p ≠ D) (h2 : l ≠ D) (s : Same (wo [D] H) (wo [D] H')) : PenAt b p l H' := by
  obtain ⟨ns, idx, rest, e1, e2, r⟩ := h.ex
  exact ⟨ns, idx, rest, kp_at s (by simpa using h1) e1, kp_at s (by simpa using h2) e2, r⟩
theorem PenAt.mono {b c : Nat} {p l : Addr} {H : Hp} (h : PenAt b p l H) (hb : b ≤ c) : PenAt c p l H := by
  obtain ⟨ns, idx, rest, h1, h2, h3, h4, r⟩ := h.ex
  exact ⟨ns, idx, rest, h1, h2, h3, by omega, r⟩
theorem PenAt.some_p {b : Nat} {p l : Addr} {H : Hp} (h : PenAt b p l H) : ∃ o, H p = some o := by
  obtain ⟨ns, idx, rest, h1, _⟩ := h.ex
  exact ⟨_, h1⟩
theorem PenAt.some_l {b : Nat} {p l : Addr} {H : Hp} (h : PenAt b p l H) : ∃ o, H l = some o := by
  obtain ⟨ns, idx, rest, _, h1, _⟩ := h.ex
  exact ⟨_, h1⟩
theorem PenAt.ne_p {b : Nat} {p l D : Addr} {H : Hp} (h : PenAt b p l H) (hD : H D = none) : p ≠ D := by
  obtain ⟨o, e⟩ := h.some_p
  exact ne_of_none e hD
theorem PenAt.ne_l {b : Nat} {p l D : Addr} {H : Hp} (h : PenAt b p l H) (hD : H D = none) : l ≠ D := by
  obtain ⟨o, e⟩ := h.some_l
  exact ne_of_none e hD

/-! ### lists of strings, of ints -/
theorem getElem?_map_inv {α : Type} {f : α → V} {xs : List α} {i : Nat} {v : V} (h : (xs.map f)[i]? = some v) : ∃ x, xs[i]? = some x ∧ v = f x := by
  rw [List.getElem?_map] at h
  cases e : xs[i]? with
  | none => rw [e] at h; cases h
  | some x => rw [e] at h; exact ⟨x, rfl, (Option.some.inj h).symm⟩
/-- what a comprehension over a list gives, turn by turn -/
theorem fm_bind {α β : Type} (f : α → Option β) : ∀ (xs : List α), (List.range xs.length).filterMap (fun i => (xs[i]?).bind f) = xs.filterMap f
  | [] => rfl
  | x :: xs => by
    rw [List.length_cons, List.range_succ_eq_map, List.filterMap_cons, List.filterMap_map, List.filterMap_cons]
    have ih := fm_bind f xs
    have e : ((fun i => ((x :: xs)[i]?).bind f) ∘ Nat.succ) = fun i => (xs[i]?).bind f := by
      funext i; simp
    rw [e, ih]
    simp
theorem fm_map {α β : Type} (f : α → β) (xs : List α) : (List.range xs.length).filterMap (fun (i : Nat) => (xs[i]?).map f) = xs.map f := by
  have h := fm_bind (fun x => some (f x)) xs
  have e : (fun (i : Nat) => (xs[i]?).map f) = fun (i : Nat) => (xs[i]?).bind (fun x => some (f x)) := by
    funext i; cases xs[i]? <;> rfl
  rw [e, h]
  simp
theorem fm_arr {β : Type} (f : Nat → β) (xs : Array Nat) : (List.range xs.size).filterMap (fun (i : Nat) => (xs[i]?).map f) = xs.toList.map f := by
  have h := fm_map f xs.toList
  simpa using h
theorem fm_fn {β : Type} (f : Nat → β) (n : Nat) : (List.range n).filterMap (fun (i : Nat) => some (f i)) = (List.range n).map f := by
  simp

/-- a fact of an earlier heap -/
theorem same_at {H H' : Hp} (s : Same H H') {b : Addr} {o : HO} (h : H b = some o) : H' b = some o := s b o h
theorem seqL_at {K : PySem.W.Frag} {H H' : Hp} (s : Same H H') {b : Addr} {xs : List V} (h : SqL K H b xs) : SqL K H' b xs := s.seq h
/-- what is wanted of a new object o: at any new place, in a heap that holds all that was tracked -/
def New (o : HO) (H : Hp) (Q : VK) : Prop := ∀ p H', H p = none → Same H H' → H' p = some o → Q (.ref p) H'
theorem New.go {o : HO} {H : Hp} {Q : VK} (h : New o H Q) {p : Addr} (hp : H p = none) : Q (.ref p) (upd H p o) := h p _ hp (same_upd hp) upd_same
def tLstN (t : TA) : TE := fun σ H Q => t σ H fun xs H1 => xs.length ≤ sizeLine ∧ New (.lst xs) H1 Q
def tTupN (t : TA) : TE := fun σ H Q => t σ H fun xs H1 => xs.length ≤ sizeLine ∧ New (.tup xs) H1 Q
def mA (t : TA) : TA := fun σ H R => ∃ R', t σ H R' ∧ ∀ xs H1, R' xs H1 → R xs H1
theorem PA_mono {X : Cx} {es : List Expr} {t : TA} (h : PA X es t) : PA X es (mA t) := ⟨fun pos pins s σ H Q I ⟨R, q, m⟩ =>
  thn (h.run pos pins s σ H R I q) fun _ _ ⟨vs, H', I', r, z⟩ => ⟨vs, H', I', r, m vs H' z⟩⟩
theorem PE_imp {X : Cx} {e : Expr} {t u : TE} (h : PE X e t) (m : ∀ σ H Q, u σ H Q → t σ H Q) : PE X e u := ⟨fun pins s σ H Q I q => h.run pins s σ H Q I (m σ H Q q)⟩
theorem pe_lstN {X : Cx} {es : List Expr} {t : TA} {pos : Pos} (h : PA X es t) : PE X (.List es pos) (tLstN t) :=
  PE_imp (pe_lst (PA_mono h)) fun σ H Q q => ⟨_, q, fun xs H1 ⟨hz, k⟩ => ⟨hz, fun p hp => k.go hp⟩⟩
theorem pe_tupN {X : Cx} {es : List Expr} {t : TA} {x1} {pos : Pos} (h : PA X es t) : PE X (.Tuple es x1 pos) (tTupN t) :=
  PE_imp (pe_tup (PA_mono h)) fun σ H Q q => ⟨_, q, fun xs H1 ⟨hz, k⟩ => ⟨hz, fun p hp => k.go hp⟩⟩
/-- a word between an expression and what follows -/
def mE (t : TE) : TE := fun σ H Q => ∃ M : VK, t σ H M ∧ ∀ v H', M v H' → Q v H'
theorem pe_mid {X : Cx} {e : Expr} {t : TE} (h : PE X e t) : PE X e (mE t) := ⟨fun pins s σ H Q I ⟨M, q, m⟩ =>
  thn (h.run pins s σ H M I q) fun _ _ ⟨v, H', I', r, z⟩ => ⟨v, H', I', r, m v H' z⟩⟩
theorem w_mid {t : TE} {σ : L2.St} {H : Hp} {Q : VK} (M : VK) (h : t σ H M) (k : ∀ v H', M v H' → Q v H') : mE t σ H Q := ⟨M, h, k⟩
section
variable {σ : L2.St} {H : Hp} {Q : VK} {D : Ends} {v x y : V} {i : Nat} {ta tb tc te : TE} {t u : TS} {g : TG} {c : TT} {K : PySem.W.Frag} {b : Bool}
/-! #### statements -/
theorem w_seq (h : t { D with nx := u D } σ H) : tSeq t u D σ H := h
theorem w_cut (M : L2.St → Hp → Prop) (h : t { D with nx := M } σ H) (k : ∀ σ' H', M σ' H' → u D σ' H') : tCut t u D σ H := ⟨M, h, k⟩
theorem w_next (h : D.nx σ H) : tNext D σ H := h
theorem w_asg (h : te σ H fun x H1 => g x σ H1 D.nx) : tAsg te g D σ H := h
theorem w_gname {R : L2.St → Hp → Prop} (h : R (σ.set i (some v)) H) : gName i v σ H R := h
theorem w_gsub {to ti : TE} {ts : TSet} {R : L2.St → Hp → Prop} (h : to σ H fun o H1 => ti σ H1 fun i H2 => ts o i v H2 fun H3 => R σ H3) : gSub to ti ts v σ H R := h
theorem w_gtup {n : Nat} {a : Addr} {xs : List V} {t : TGs} {R : L2.St → Hp → Prop} (h1 : SqT K H a xs) (h2 : xs.length = n) (h : t xs σ H R) : gTup K n t (.ref a) σ H R := ⟨a, xs, rfl, h1, h2, h⟩
theorem w_gcons {t : TG} {u : TGs} {r : List V} {R : L2.St → Hp → Prop} (h : t v σ H fun σ' H' => u r σ' H' R) : gCons t u (v :: r) σ H R := ⟨v, r, rfl, h⟩
theorem w_gnil {R : L2.St → Hp → Prop} (h : R σ H) : gNil [] σ H R := ⟨rfl, h⟩
theorem w_drop (h : te σ H fun _ H1 => D.nx σ H1) : tDrop te D σ H := h
theorem w_ret (h : te σ H D.rt) : tRet te D σ H := h
theorem w_retN (h : D.rt .non H) : tRetN D σ H := h
theorem w_ifS (h : c σ H fun b H1 => if b = true then t D σ H1 else u D σ H1) : tIfS c t u D σ H := h
theorem w_par {j : Nat} {ta : TA} (h : ta σ H fun vs H1 => ∃ v w, vs = [v, w] ∧ D.nx ((σ.set i (some v)).set j (some w)) H1) : tPar i j ta D σ H := h
theorem w_aug {ti : TIp} (e : σ[i]? = some (some x)) (h : te σ H fun y H1 => ti x y H1 fun z H2 => D.nx (σ.set i (some z)) H2) : tAug i te ti D σ H := ⟨x, e, h⟩
/-! #### expressions -/
theorem w_var (e : σ[i]? = some (some v)) (h : Q v H) : tVar i σ H Q := ⟨v, e, h⟩
theorem w_c (h : Q v H) : tC v σ H Q := h
theorem w_op {r : R2} (h : ta σ H fun x H1 => tb σ H1 fun y H2 => r x y H2 Q) : tOp r ta tb σ H Q := h
theorem w_un {r : V → Hp → VK → Prop} (h : ta σ H fun x H1 => r x H1 Q) : tUn r ta σ H Q := h
theorem w_chain {r r' : R2} (h : ta σ H fun x H1 => tb σ H1 fun y H2 => r x y H2 fun z H3 => ∃ k, z = .bl k ∧ (if k = true then tc σ H3 fun w' H4 => r' y w' H4 Q else Q (.bl false) H3)) : tChain r r' ta tb tc σ H Q := h
theorem w_nil {R : List V → Hp → Prop} (h : R [] H) : tNil σ H R := h
theorem w_cons {tr : TA} {R : List V → Hp → Prop} (h : te σ H fun x H1 => tr σ H1 fun xs H2 => R (x :: xs) H2) : tCons te tr σ H R := h
theorem w_tup {ta : TA} (h : ta σ H fun xs H1 => xs.length ≤ sizeLine ∧ New (.tup xs) H1 Q) : tTupN ta σ H Q := h
theorem w_lst {ta : TA} (h : ta σ H fun xs H1 => xs.length ≤ sizeLine ∧ New (.lst xs) H1 Q) : tLstN ta σ H Q := h
theorem w_sz {n : Nat} {A : Prop} (hz : n ≤ 1000000) (h : A) : n ≤ sizeLine ∧ A := ⟨by have h2 : (sizeLine : Nat) = 16777216 := sizeLine_eq; omega, h⟩
theorem w_cb {r : List V → Hp → VK → Prop} {ta : TA} (h : ta σ H fun vs H1 => r vs H1 Q) : tCB r ta σ H Q := h
theorem w_call {sp : Sp} {dvs : List V} {E : XK} {ta : TA} (h : ta σ H fun vs H1 => sp (vs ++ dvs) H1 Q E) : tCall sp dvs E ta σ H Q := h
theorem w_bm {T : String} {r : V → List V → Hp → VK → Prop} {to : TE} {t : TA} (h : to σ H fun x H1 => tyV K T x H1 ∧ t σ H1 fun xs H2 => r x xs H2 Q) : tBM K T r to t σ H Q := h
theorem w_bm0 {T : String} {r : V → List V → Hp → VK → Prop} {to : TE} (h : to σ H fun x H1 => tyV K T x H1 ∧ r x [] H1 Q) : tBM0 K T r to σ H Q := h
theorem w_m1 {r : V → List V → Hp → VK → Prop} {to te : TE} (h : to σ H fun x H1 => (∃ a, x = .str a) ∧ te σ H1 fun y H2 => r x [y] H2 Q) : tM1 r to te σ H Q := h
theorem w_sl {r : V → Option Int → Option Int → Hp → VK → Prop} {tl th : TO} (h : te σ H fun x H1 => tl σ H1 fun l H2 => th σ H2 fun u H3 => r x l u H3 Q) : tSl r te tl th σ H Q := h
theorem w_part {R : Option Int → Hp → Prop} (h : te σ H fun x H1 => ∃ i, x = .int i ∧ R (some i) H1) : tPart te σ H R := h
theorem w_nopart {R : Option Int → Hp → Prop} (h : R none H) : tNoPart σ H R := h
theorem w_andV (h : ta σ H fun x H1 => ∃ c, x = .bl c ∧ if c = true then tb σ H1 Q else Q (.bl false) H1) : tAndV ta tb σ H Q := h
theorem w_orV (h : ta σ H fun x H1 => ∃ c, x = .bl c ∧ if c = true then Q (.bl true) H1 else tb σ H1 Q) : tOrV ta tb σ H Q := h
theorem w_notV (h : ta σ H fun x H1 => ∃ c, x = .bl c ∧ Q (.bl (!c)) H1) : tNotV ta σ H Q := h
theorem w_if (h : c σ H fun b H1 => if b = true then ta σ H1 Q else tb σ H1 Q) : tIf c ta tb σ H Q := h
/-! #### tests -/
variable {R : Bool → Hp → Prop} {c' : TT}
theorem w_test (h : te σ H fun x H' => ∃ k, x = .bl k ∧ R k H') : tTest te σ H R := h
theorem w_tB (h : te σ H fun x H' => ∃ k, x = .bl k ∧ R k H') : tB te σ H R := h
theorem w_and (h : c σ H fun b H1 => if b = true then c' σ H1 R else R false H1) : tAnd c c' σ H R := h
theorem w_or (h : c σ H fun b H1 => if b = true then R true H1 else c' σ H1 R) : tOr c c' σ H R := h
theorem w_not (h : c σ H fun b H1 => R (!b) H1) : tNot c σ H R := h
theorem w_yes (h : R true H) : tYes σ H R := h
theorem w_bl {R : Bool → Prop} (h : R b) : ∃ k, V.bl b = V.bl k ∧ R k := ⟨b, rfl, h⟩
theorem w_in {R : Int → Prop} {j : Int} (h : R j) : ∃ k, V.int j = V.int k ∧ R k := ⟨j, rfl, h⟩
theorem w_str {R : Prop} {z : Str} (h : R) : (∃ a, V.str z = V.str a) ∧ R := ⟨⟨z, rfl⟩, h⟩
theorem w_two {R : V → V → Prop} (h : R x y) : ∃ v w, [x, y] = [v, w] ∧ R v w := ⟨x, y, rfl, h⟩
/-! #### operators on values -/
variable {m n : Int}
theorem w_rI0 {f : Int → Int → V} (h : Q (f m n) H) : rI0 f (.int m) (.int n) H Q := ⟨m, n, rfl, rfl, h⟩
theorem w_rI {C : Int → Int → Prop} {f : Int → Int → V} (hc : C m n) (h : Q (f m n) H) : rI C f (.int m) (.int n) H Q := ⟨m, n, rfl, rfl, hc, h⟩
theorem w_ip {f : Int → Int → Int} (h : Q (.int (f m n)) H) : ipI f (.int m) (.int n) H Q := ⟨m, n, rfl, rfl, h⟩
theorem w_rU {f : Int → V} (h : Q (f m) H) : rU f (.int m) H Q := ⟨m, rfl, h⟩
theorem dec_iI : decide (V.int m = V.int n) = decide (m = n) := by
  by_cases e : m = n
  · rw [e]; simp
  · rw [decide_eq_false e, decide_eq_false (fun z => e (V.int.inj z))]
theorem dec_iS {a b : Str} : decide (V.str a = V.str b) = decide (a = b) := by
  by_cases e : a = b
  · rw [e]; simp
  · rw [decide_eq_false e, decide_eq_false (fun z => e (V.str.inj z))]
theorem w_eqI (h : Q (.bl (decide (m = n))) H) : rEq (.int m) (.int n) H Q := ⟨rfl, by rw [dec_iI]; exact h⟩
theorem w_neI (h : Q (.bl (!decide (m = n))) H) : rNe (.int m) (.int n) H Q := ⟨rfl, by rw [dec_iI]; exact h⟩
theorem w_eqS {a b : Str} (h : Q (.bl (decide (a = b))) H) : rEq (.str a) (.str b) H Q := ⟨rfl, by rw [dec_iS]; exact h⟩
theorem w_neS {a b : Str} (h : Q (.bl (!decide (a = b))) H) : rNe (.str a) (.str b) H Q := ⟨rfl, by rw [dec_iS]; exact h⟩
theorem w_eqB {a b : Bool} (h : Q (.bl (decide (a = b))) H) : rEq (.bl a) (.bl b) H Q := ⟨rfl, by
  have : decide (V.bl a = V.bl b) = decide (a = b) := by
    by_cases e : a = b
    · rw [e]; simp
    · rw [decide_eq_false e, decide_eq_false (fun z => e (V.bl.inj z))]
  rw [this]; exact h⟩
/-- named forms of rules whose readings have no name -/
def rAddS : R2 := fun x y H Q => ∃ i j, x = .str i ∧ y = .str j ∧ i.length + j.length ≤ sizeLine ∧ Q (.str (i ++ j)) H
theorem op_addS {X : Cx} : OpR X (binaryOp .Add) rAddS := op_add_str
theorem w_addS {a b : Str} (hz : a.length + b.length ≤ sizeLine) (h : Q (.str (a ++ b)) H) : rAddS (.str a) (.str b) H Q := ⟨a, b, rfl, rfl, hz, h⟩
def rLtS : R2 := fun x y H Q => ∃ i j, x = .str i ∧ y = .str j ∧ Q (.bl (decide (i.cps.toList < j.cps.toList))) H
theorem op_ltS {X : Cx} : OpR X (compareOp .Lt) rLtS := op_lt_str
theorem w_ltS {a b : Str} (h : Q (.bl (decide (a.cps.toList < b.cps.toList))) H) : rLtS (.str a) (.str b) H Q := ⟨a, b, rfl, rfl, h⟩
def rLeS : R2 := fun x y H Q => ∃ i j, x = .str i ∧ y = .str j ∧ Q (.bl (!decide (j.cps.toList < i.cps.toList))) H
theorem op_leS {X : Cx} : OpR X (compareOp .LtE) rLeS := op_le_str
theorem w_leS {a b : Str} (h : Q (.bl (!decide (b.cps.toList < a.cps.toList))) H) : rLeS (.str a) (.str b) H Q := ⟨a, b, rfl, rfl, h⟩
def rInG : R2 := fun x y H Q => ∃ (c : Nat) (z : Str), x = .str ⟨#[c]⟩ ∧ y = .str z ∧ Q (.bl (decide (c ∈ z.cps.toList))) H
theorem op_inG {X : Cx} : OpR X (compareOp .In) rInG := op_in_sign
theorem w_inG {c : Nat} {z : Str} (h : Q (.bl (decide (c ∈ z.cps.toList))) H) : rInG (.str ⟨#[c]⟩) (.str z) H Q := ⟨c, z, rfl, rfl, h⟩
def rNotInG : R2 := fun x y H Q => ∃ (c : Nat) (z : Str), x = .str ⟨#[c]⟩ ∧ y = .str z ∧ Q (.bl (!decide (c ∈ z.cps.toList))) H
theorem op_notInG {X : Cx} : OpR X (compareOp .NotIn) rNotInG := op_notIn_sign
theorem w_notInG {c : Nat} {z : Str} (h : Q (.bl (!decide (c ∈ z.cps.toList))) H) : rNotInG (.str ⟨#[c]⟩) (.str z) H Q := ⟨c, z, rfl, rfl, h⟩
def rLen (K : PySem.W.Frag) : List V → Hp → VK → Prop := fun xs H Q => ∃ x n, xs = [x] ∧ LenV K x H n ∧ Q (.int n) H
theorem cr_len {X : Cx} {K : PySem.W.Frag} (h : X.K = K := by rfl) : CallR X (.builtin "len") (rLen K) := by subst h; exact call_len
theorem w_lenS {z : Str} (hz : z.length ≤ sizeLine) (h : Q (.int z.length) H) : rLen K [.str z] H Q := ⟨_, z.length, rfl, ⟨hz, rfl⟩, h⟩
theorem w_lenL {a : Addr} {xs : List V} (ha : SqL K H a xs) (h : Q (.int xs.length) H) : rLen K [.ref a] H Q := ⟨_, xs.length, rfl, .inl ⟨xs, ha, rfl⟩, h⟩
theorem w_lenT {a : Addr} {xs : List V} (ha : SqT K H a xs) (h : Q (.int xs.length) H) : rLen K [.ref a] H Q := ⟨_, xs.length, rfl, .inr ⟨xs, ha, rfl⟩, h⟩
def rStrI : List V → Hp → VK → Prop := fun xs H Q => ∃ i, xs = [.int i] ∧ i.natAbs.log2 < 1920 ∧ Q (.str (toString i)) H
theorem cr_strI {X : Cx} : CallR X (.type "str") rStrI := call_str_int
theorem w_strI (hz : m.natAbs.log2 < 1920) (h : Q (.str (toString m)) H) : rStrI [.int m] H Q := ⟨m, rfl, hz, h⟩
def rListOf (K : PySem.W.Frag) : List V → Hp → VK → Prop := fun xs H Q => ∃ p ys, xs = [.ref p] ∧ (SqL K H p ys ∨ SqT K H p ys) ∧ ∀ l, H l = none → Q (.ref l) (upd H l (.lst ys))
theorem cr_listOf {X : Cx} {K : PySem.W.Frag} (h : X.K = K := by rfl) : CallR X (.type "list") (rListOf K) := by subst h; exact call_list_of
theorem w_listOfL {a : Addr} {xs : List V} (ha : SqL K H a xs) (h : New (.lst xs) H Q) : rListOf K [.ref a] H Q := ⟨a, xs, rfl, .inl ha, fun _ hp => h.go hp⟩
theorem w_listOfT {a : Addr} {xs : List V} (ha : SqT K H a xs) (h : New (.lst xs) H Q) : rListOf K [.ref a] H Q := ⟨a, xs, rfl, .inr ha, fun _ hp => h.go hp⟩
def rTupOf (K : PySem.W.Frag) : List V → Hp → VK → Prop := fun xs H Q => ∃ p ys, xs = [.ref p] ∧ ((SqL K H p ys ∧ ∀ l, H l = none → Q (.ref l) (upd H l (.tup ys))) ∨ (SqT K H p ys ∧ Q (.ref p) H))
theorem cr_tupOf {X : Cx} {K : PySem.W.Frag} (h : X.K = K := by rfl) : CallR X (.type "tuple") (rTupOf K) := by subst h; exact call_tuple_of
theorem w_tupOfL {a : Addr} {xs : List V} (ha : SqL K H a xs) (h : New (.tup xs) H Q) : rTupOf K [.ref a] H Q := ⟨a, xs, rfl, .inl ⟨ha, fun _ hp => h.go hp⟩⟩
def rDictP (K : PySem.W.Frag) : List V → Hp → VK → Prop := fun xs H Q => ∃ (a : Addr) (ps : List Addr) (kvs : List (Key × V)), xs = [.ref a] ∧ SqL K H a (ps.map V.ref) ∧ Paired (fun p kv => SqT K H p [kV kv.1, kv.2]) ps kvs ∧
    ∀ p, H p = none → Q (.ref p) (upd H p (.dK (mergeK [] kvs)))
theorem cr_dictP {X : Cx} {K : PySem.W.Frag} (hc : X.calm = true) (h : X.K = K := by rfl) : CallR X (.type "dict") (rDictP K) := by subst h; exact call_dictP hc
theorem w_all {a : Addr} {bs : List Bool} (ha : SqL K H a (bs.map V.bl)) (h : Q (.bl (bs.all id)) H) : rAll K [.ref a] H Q := ⟨a, bs, rfl, ha, h⟩
theorem w_any {a : Addr} {bs : List Bool} (ha : SqL K H a (bs.map V.bl)) (h : Q (.bl (bs.any id)) H) : rAny K [.ref a] H Q := ⟨a, bs, rfl, ha, h⟩
theorem w_ixL {a : Addr} {xs : List V} (ha : SqL K H a xs) (hv : atI xs m = some v) (h : Q v H) : rIxL K (.ref a) (.int m) H Q := ⟨a, xs, m, v, rfl, rfl, ha, hv, h⟩
theorem w_ixT {a : Addr} {xs : List V} (ha : SqT K H a xs) (hv : atI xs m = some v) (h : Q v H) : rIxT K (.ref a) (.int m) H Q := ⟨a, xs, m, v, rfl, rfl, ha, hv, h⟩
theorem w_ixS {z : Str} {c : Nat} (hz : z.length ≤ sizeLine) (hc : atI z.cps.toList m = some c) (h : Q (.str ⟨#[c]⟩) H) : rIxS (.str z) (.int m) H Q := ⟨z, m, c, rfl, rfl, hz, hc, h⟩
theorem w_setL {a : Addr} {xs : List V} {j : Nat} {R : Hp → Prop} (ha : H a = some (.lst xs)) (hj : ixN xs.length m = some j) (h : R (upd H a (.lst (xs.set j v)))) : rSetL (.ref a) (.int m) v H R := ⟨a, xs, m, j, rfl, rfl, ha, hj, h⟩
theorem w_setL' {a : Addr} {xs : List V} (ys : List V) (j : Nat) {R : Hp → Prop} (ha : H a = some (.lst xs)) (hj : ixN xs.length m = some j) (hy : xs.set j v = ys) (h : R (upd H a (.lst ys))) : rSetL (.ref a) (.int m) v H R :=
  ⟨a, xs, m, j, rfl, rfl, ha, hj, by rw [hy]; exact h⟩
theorem w_slS {z : Str} {lo hi : Option Int} (hz : z.length ≤ sizeLine) (h : Q (.str (cutS z lo hi)) H) : rSlS (.str z) lo hi H Q := ⟨z, rfl, hz, h⟩
theorem w_slL {a : Addr} {xs : List V} {lo hi : Option Int} (ha : SqL K H a xs) (h : New (.lst (cutV xs lo hi)) H Q) : rSlL K (.ref a) lo hi H Q := ⟨a, xs, rfl, ha, fun _ hp => h.go hp⟩
theorem w_app {a : Addr} {xs : List V} (ha : H a = some (.lst xs)) (hz : xs.length < sizeLine) (h : Q .non (upd H a (.lst (xs ++ [v])))) : rAppend (.ref a) [v] H Q := ⟨a, xs, v, rfl, rfl, ha, hz, h⟩
theorem w_tyL {a : Addr} {xs : List V} (ha : SqL K H a xs) : tyV K "list" (.ref a) H := .inl ⟨rfl, xs, ha⟩
theorem w_starts {a b : Str} {R : V → List V → Hp → VK → Prop} (h : Q (.bl (Txt.startswith a b)) H) : ∃ a' b', V.str a = .str a' ∧ [V.str b] = [.str b'] ∧ Q (.bl (Txt.startswith a' b')) H := ⟨a, b, rfl, rfl, h⟩
end
/-! #### rules with the written part told (within comprehensions it must be) -/
section
variable {X : Cx} {K : PySem.W.Frag}
theorem ixL (h : X.K = K := by rfl) : IxR X (rIxL K) := by subst h; exact ix_list
theorem ixT (h : X.K = K := by rfl) : IxR X (rIxT K) := by subst h; exact ix_tup
theorem slL (h : X.K = K := by rfl) : SlR X (rSlL K) := by subst h; exact sl_list
theorem opIn (h : X.K = K := by rfl) : OpR X (compareOp .In) (rIn K false) := by subst h; exact op_in_seq
theorem opNotIn (h : X.K = K := by rfl) : OpR X (compareOp .NotIn) (rIn K true) := by subst h; exact op_notIn_seq
theorem opEqD (hu : X.A.units + 64 < cLine) (h : X.K = K := by rfl) : OpR X (compareOp .Eq) (rEqD K) := by subst h; exact op_eqD hu
theorem opNeD (hu : X.A.units + 64 < cLine) (h : X.K = K := by rfl) : OpR X (compareOp .NotEq) (rNeD K) := by subst h; exact op_neD hu
theorem cr_isi (h : X.K = K := by rfl) : CallR X (.builtin "isinstance") (rIsi K) := by subst h; exact call_isi
theorem cr_isiT (h : X.K = K := by rfl) : CallR X (.builtin "isinstance") (rIsiT K) := by subst h; exact call_isiT
theorem crAll (hc : X.calm = true) (h : X.K = K := by rfl) : CallR X (.builtin "all") (rAll K) := by subst h; exact cr_all hc
theorem crAny (hc : X.calm = true) (h : X.K = K := by rfl) : CallR X (.builtin "any") (rAny K) := by subst h; exact cr_any hc
variable {o e : Expr} {es : List Expr} {to : TE} {t : TA} {name : Str} {apos cpos : Pos} {T id : String} {r : V → List V → Hp → VK → Prop}
theorem pe_bm0K (pa : PlainAttrs T) (slot : Slot T name id) (hty : typeOf (.builtin id) = pure (.type "method_descriptor")) (hm : MtR X id r) (ho : PE X o to) (hK : X.K = K := by rfl)
    (hbase : attributeBase o name X.env (eval o X.env) = eval o X.env := by rfl) (hline : (apos.endLine == cpos.line) = true := by rfl) : PE X (.Call (.Attribute o name apos) [] [] cpos) (tBM0 K T r to) := by
  subst hK; exact pe_bm0 pa slot hty hm ho hbase hline
theorem pe_bmK (pa : PlainAttrs T) (slot : Slot T name id) (hty : typeOf (.builtin id) = pure (.type "method_descriptor")) (hm : MtR X id r) (ho : PE X o to) (ha : PA X (e :: es) t) (hK : X.K = K := by rfl)
    (hbase : attributeBase o name X.env (eval o X.env) = eval o X.env := by rfl)
    (hfew : ((backTo cpos (starEach (e :: es) X.env)).all (fun x => !x.1) && (backToKw cpos (keywordEach [] X.env)).all (fun x => x.1.isSome)
      && decide ((e :: es).length + ([] : List Keyword).length + (if ([] : List Keyword).isEmpty then 0 else 1) < 30)) = true := by rfl)
    (hline : (apos.endLine == cpos.line) = true := by rfl) (hs : starEach (e :: es) X.env = (false, eval e X.env) :: starEach es X.env := by rfl) (hplain : (backTo cpos (starEach es X.env)).any (·.1) = false := by rfl) :
    PE X (.Call (.Attribute o name apos) (e :: es) [] cpos) (tBM K T r to t) := by
  subst hK; exact pe_bm pa slot hty hm ho ha hbase hfew hline hs hplain
end

/-! Kl: ifs by their tests; pure comprehensions over texts, lists, ranges. -/
section
variable {A B : Prop}
theorem iteNT (h : A) : if (!false) = true then A else B := iteT h
theorem iteNF (h : B) : if (!true) = true then A else B := iteF h
theorem ifD {c : Prop} [Decidable c] (h1 : c → A) (h2 : ¬ c → B) : if decide c = true then A else B := by
  by_cases h : c
  · rw [decide_eq_true h]; exact iteT (h1 h)
  · rw [decide_eq_false h]; exact iteF (h2 h)
theorem ifND {c : Prop} [Decidable c] (h1 : ¬ c → A) (h2 : c → B) : if (!decide c) = true then A else B := by
  by_cases h : c
  · rw [decide_eq_true h]; exact iteF (h2 h)
  · rw [decide_eq_false h]; exact iteT (h1 h)
theorem ifB {b : Bool} (h1 : b = true → A) (h2 : b = false → B) : if b = true then A else B := by
  cases b with
  | true => exact iteT (h1 rfl)
  | false => exact iteF (h2 rfl)
theorem ifNB {b : Bool} (h1 : b = false → A) (h2 : b = true → B) : if (!b) = true then A else B := by
  cases b with
  | true => exact iteF (h2 rfl)
  | false => exact iteT (h1 rfl)
end
section
variable {σ : L2.St} {H : Hp} {Q : VK} {K : PySem.W.Frag}
theorem w_lc {wi : TI} {g : TG} {tt : TT} {te : TE} {vs : List Nat} (h : wi σ H fun J H1 => ∀ D, H1 D = none → ∃ W : Nat → Nat → Hp → Prop, (∃ m, W 0 m (upd H1 D (.lst []))) ∧ ∀ i m H, W i m H →
  (J.stop i H ∧ Q (.ref D) H) ∨ (J.go i H ∧ ∃ Nx : Hp → Prop, (∀ H', Nx H' → ∃ m', m' < m ∧ W (i + 1) m' H') ∧ ∀ x H', J.yld i H x H' → g x (wipe σ vs) H' fun σ2 H2 => wipe σ2 vs = wipe σ vs ∧ tt σ2 H2 fun b H3 =>
    if b = true then te σ2 H3 fun y H4 => ∃ acc, H4 D = some (.lst acc) ∧ acc.length < sizeLine ∧ Nx (upd H4 D (.lst (acc ++ [y]))) else Nx H3)) : tLc wi g tt te vs σ H Q := h
theorem w_for {wi : TI} {g : TG} {tb : TS} {D : Ends} (h : wi σ H fun J H1 => ∃ W : Nat → Nat → L2.St → Hp → Prop, (∃ m, W 0 m σ H1) ∧ ∀ i m σ H, W i m σ H →
  (J.stop i H ∧ D.nx σ H) ∨ (J.go i H ∧ ∃ N : L2.St → Hp → Prop, (∀ σ' H', N σ' H' → ∃ m', m' < m ∧ W (i + 1) m' σ' H') ∧ ∀ x H', J.yld i H x H' → g x σ H' fun σ2 H2 => tb { D with nx := N, ct := N, bk := D.nx } σ2 H2)) : tFor wi g tb D σ H := h
variable {R : It → Hp → Prop} {te : TE} {ta : TA}
theorem w_iStr (h : te σ H fun v H1 => ∃ x, v = .str x ∧ R (Its x) H1) : iStr te σ H R := h
theorem w_iList (h : te σ H fun x H1 => ∃ a, x = .ref a ∧ (∃ xs, SqL K H1 a xs) ∧ R (Itl K a) H1) : iList K te σ H R := h
theorem w_iTup (h : te σ H fun x H1 => ∃ a, x = .ref a ∧ (∃ xs, SqT K H1 a xs) ∧ R (Itt K a) H1) : iTup K te σ H R := h
theorem w_iRng1 (h : ta σ H fun vs H1 => ∃ j : Int, vs = [.int j] ∧ -(2 ^ 62) ≤ j ∧ j < 2 ^ 62 ∧ R (Itr 0 j.toNat) H1) : iRng1 ta σ H R := h
theorem w_iRng2 (h : ta σ H fun vs H1 => ∃ i j : Int, vs = [.int i, .int j] ∧ (-(2 ^ 62) ≤ i ∧ i < 2 ^ 62 ∧ -(2 ^ 62) ≤ j ∧ j < 2 ^ 62) ∧ R (Itr i (j - i).toNat) H1) : iRng2 ta σ H R := h
theorem w_exS {P : Str → Prop} {z : Str} (h : P z) : ∃ x, V.str z = V.str x ∧ P x := ⟨z, rfl, h⟩
theorem w_exL {a : Addr} {xs : List V} {P : Addr → Prop} (ha : SqL K H a xs) (h : P a) : ∃ a', V.ref a = V.ref a' ∧ (∃ xs, SqL K H a' xs) ∧ P a' := ⟨a, rfl, ⟨xs, ha⟩, h⟩
theorem w_exT {a : Addr} {xs : List V} {P : Addr → Prop} (ha : SqT K H a xs) (h : P a) : ∃ a', V.ref a = V.ref a' ∧ (∃ xs, SqT K H a' xs) ∧ P a' := ⟨a, rfl, ⟨xs, ha⟩, h⟩
theorem w_exR1 {j : Int} {P : Int → Prop} (h1 : 0 ≤ j) (h2 : j < 2 ^ 62) (h : P j) : ∃ k : Int, [V.int j] = [V.int k] ∧ -(2 ^ 62) ≤ k ∧ k < 2 ^ 62 ∧ P k := ⟨j, rfl, by omega, h2, h⟩
theorem w_exR2 {i j : Int} {P : Int → Int → Prop} (h1 : -(2 ^ 62) ≤ i ∧ i < 2 ^ 62 ∧ -(2 ^ 62) ≤ j ∧ j < 2 ^ 62) (h : P i j) : ∃ k l : Int, [V.int i, V.int j] = [V.int k, V.int l] ∧ (-(2 ^ 62) ≤ k ∧ k < 2 ^ 62 ∧ -(2 ^ 62) ≤ l ∧ l < 2 ^ 62) ∧ P k l := ⟨i, j, rfl, h1, h⟩
end
theorem take_more' {α : Type} : ∀ {l : List α} {i : Nat} {x : α}, l[i]? = some x → l.take (i + 1) = l.take i ++ [x]
  | [], i, x, h => by simp at h
  | a :: l, 0, x, h => by
    have e : a = x := Option.some.inj h
    subst e
    rfl
  | a :: l, i + 1, x, h => by
    have ih := take_more' (l := l) (i := i) (x := x) h
    show a :: l.take (i + 1) = a :: l.take i ++ [x]
    rw [ih]
    rfl
section
variable {g : TG} {tt : TT} {te : TE} {vs : List Nat} {σ : L2.St} {H1 : Hp} {D : Addr} {Qd : Hp → Prop} {K : PySem.W.Frag}
/-- [e for c in z], z a text, e's value by the sign -/
theorem lc_textM {z : Str} (f : Nat → V) (hz : z.length ≤ 1000000) (hD : H1 D = none)
    (hs : ∀ (c : Nat) (H' : Hp) (Ky : V → Hp → Prop), c ∈ z.cps.toList → Same H1 H' → (∀ H4, Same H' H4 → Ky (f c) H4) →
      g (.str ⟨#[c]⟩) (wipe σ vs) H' fun σ2 H2 => wipe σ2 vs = wipe σ vs ∧ te σ2 H2 Ky)
    (hd : ∀ H', Same H1 H' → H' D = some (.lst (z.cps.toList.map f)) → Qd H') :
    ∃ W : Nat → Nat → Hp → Prop, (∃ m, W 0 m (upd H1 D (.lst []))) ∧ ∀ i m H, W i m H →
      ((Its z).stop i H ∧ Qd H) ∨ ((Its z).go i H ∧ ∃ Nx : Hp → Prop, (∀ H', Nx H' → ∃ m', m' < m ∧ W (i + 1) m' H') ∧ ∀ x H', (Its z).yld i H x H' → g x (wipe σ vs) H' fun σ2 H2 => wipe σ2 vs = wipe σ vs ∧ tYes σ2 H2 fun b H3 =>
        if b = true then te σ2 H3 fun y H4 => ∃ acc, H4 D = some (.lst acc) ∧ acc.length < sizeLine ∧ Nx (upd H4 D (.lst (acc ++ [y]))) else Nx H3) := by
  refine lc_it walk_str (fun i H => Same H1 H ∧ H D = some (.lst ((z.cps.toList.take i).map f))) ⟨same_upd hD, by rw [upd_same]; simp⟩ (fun _ _ _ _ => trivial) ?_ ?_
  · rintro i x H H' hi ⟨s1, eD⟩ ⟨rfl, c, hc, rfl⟩
    have hc' : z.cps.toList[i]? = some c := by simpa using hc
    have key := hs c H' (fun y H4 => ∃ acc, H4 D = some (.lst acc) ∧ acc.length < sizeLine ∧ (Same H1 (upd H4 D (.lst (acc ++ [y]))) ∧ (upd H4 D (.lst (acc ++ [y]))) D = some (.lst ((z.cps.toList.take (i + 1)).map f))))
      (List.mem_of_getElem? hc') s1 (fun H4 s4 => ⟨_, s4 _ _ eD, ?_, same_put (s1.trans s4) hD, ?_⟩)
    · exact key
    · have h2 : (sizeLine : Nat) = 16777216 := sizeLine_eq
      have h3 : z.length = z.cps.toList.length := by simp [Str.length]
      rw [List.length_map, List.length_take]
      omega
    · rw [upd_same, take_more' hc', List.map_append]
      rfl
  · rintro H ⟨s1, eD⟩
    refine hd H s1 ?_
    rw [eD]
    congr 2
    rw [List.take_of_length_le]
    simp
end
section
variable {g : TG} {tt : TT} {te : TE} {vs : List Nat} {σ : L2.St} {H1 : Hp} {D : Addr} {Qd : Hp → Prop} {K : PySem.W.Frag} {J : It} {G : Hp → Prop}
/-- [e for x in xs if t], a list or a tuple that stands still; what a turn gives, by the item -/
theorem lc_seqF {xs : List V} (w : Walk J xs.length G (YAt xs)) (f : V → Option V) (hz : xs.length ≤ 1000000) (hD : H1 D = none) (hG : ∀ H, Same H1 H → G H)
    (hs : ∀ (x : V) (H' : Hp) (Ky : V → Hp → Prop) (Kn : Hp → Prop), x ∈ xs → Same H1 H' → (∀ y H4, Same H' H4 → f x = some y → Ky y H4) → (∀ H3, Same H' H3 → f x = none → Kn H3) →
      g x (wipe σ vs) H' fun σ2 H2 => wipe σ2 vs = wipe σ vs ∧ tt σ2 H2 fun b H3 => if b = true then te σ2 H3 Ky else Kn H3)
    (hd : ∀ H', Same H1 H' → H' D = some (.lst (xs.filterMap f)) → Qd H') :
    ∃ W : Nat → Nat → Hp → Prop, (∃ m, W 0 m (upd H1 D (.lst []))) ∧ ∀ i m H, W i m H →
      (J.stop i H ∧ Qd H) ∨ (J.go i H ∧ ∃ Nx : Hp → Prop, (∀ H', Nx H' → ∃ m', m' < m ∧ W (i + 1) m' H') ∧ ∀ x H', J.yld i H x H' → g x (wipe σ vs) H' fun σ2 H2 => wipe σ2 vs = wipe σ vs ∧ tt σ2 H2 fun b H3 =>
        if b = true then te σ2 H3 fun y H4 => ∃ acc, H4 D = some (.lst acc) ∧ acc.length < sizeLine ∧ Nx (upd H4 D (.lst (acc ++ [y]))) else Nx H3) := by
  refine lc_pure w (fun i => (xs[i]?).bind f) hz hD hG (fun i H x H' y => by obtain ⟨e, _⟩ := y; rw [e]; exact Same.refl H) ?_ (fun H' s e => hd H' s (by rw [e, fm_bind]))
  rintro i x H H' Ky Kn hi s1 ⟨rfl, hx⟩ ky kn
  refine hs x H' Ky Kn (List.mem_of_getElem? hx) s1 (fun y H4 s4 e => ky y H4 s4 ?_) (fun H3 s3 e => kn H3 s3 ?_)
  · rw [hx]; exact e
  · rw [hx]; exact e
/-- the same without a test -/
theorem lc_seqM {xs : List V} (w : Walk J xs.length G (YAt xs)) (f : V → V) (hz : xs.length ≤ 1000000) (hD : H1 D = none) (hG : ∀ H, Same H1 H → G H)
    (hs : ∀ (x : V) (H' : Hp) (Ky : V → Hp → Prop), x ∈ xs → Same H1 H' → (∀ H4, Same H' H4 → Ky (f x) H4) →
      g x (wipe σ vs) H' fun σ2 H2 => wipe σ2 vs = wipe σ vs ∧ te σ2 H2 Ky)
    (hd : ∀ H', Same H1 H' → H' D = some (.lst (xs.map f)) → Qd H') :
    ∃ W : Nat → Nat → Hp → Prop, (∃ m, W 0 m (upd H1 D (.lst []))) ∧ ∀ i m H, W i m H →
      (J.stop i H ∧ Qd H) ∨ (J.go i H ∧ ∃ Nx : Hp → Prop, (∀ H', Nx H' → ∃ m', m' < m ∧ W (i + 1) m' H') ∧ ∀ x H', J.yld i H x H' → g x (wipe σ vs) H' fun σ2 H2 => wipe σ2 vs = wipe σ vs ∧ tYes σ2 H2 fun b H3 =>
        if b = true then te σ2 H3 fun y H4 => ∃ acc, H4 D = some (.lst acc) ∧ acc.length < sizeLine ∧ Nx (upd H4 D (.lst (acc ++ [y]))) else Nx H3) := by
  refine lc_seqF w (fun x => some (f x)) hz hD hG (fun x H' Ky Kn hx s1 ky kn => ?_) (fun H' s e => hd H' s (by rw [e]; simp))
  have key := hs x H' Ky hx s1 (fun H4 s4 => ky _ H4 s4 rfl)
  exact key
/-- over a range, without a test -/
theorem lc_rngM {lo : Int} {n : Nat} (f : Nat → V) (hz : n ≤ 1000000) (hD : H1 D = none)
    (hs : ∀ (i : Nat) (H' : Hp) (Ky : V → Hp → Prop), i < n → Same H1 H' → (∀ H4, Same H' H4 → Ky (f i) H4) →
      g (.int (lo + i)) (wipe σ vs) H' fun σ2 H2 => wipe σ2 vs = wipe σ vs ∧ te σ2 H2 Ky)
    (hd : ∀ H', Same H1 H' → H' D = some (.lst ((List.range n).map f)) → Qd H') :
    ∃ W : Nat → Nat → Hp → Prop, (∃ m, W 0 m (upd H1 D (.lst []))) ∧ ∀ i m H, W i m H →
      ((Itr lo n).stop i H ∧ Qd H) ∨ ((Itr lo n).go i H ∧ ∃ Nx : Hp → Prop, (∀ H', Nx H' → ∃ m', m' < m ∧ W (i + 1) m' H') ∧ ∀ x H', (Itr lo n).yld i H x H' → g x (wipe σ vs) H' fun σ2 H2 => wipe σ2 vs = wipe σ vs ∧ tYes σ2 H2 fun b H3 =>
        if b = true then te σ2 H3 fun y H4 => ∃ acc, H4 D = some (.lst acc) ∧ acc.length < sizeLine ∧ Nx (upd H4 D (.lst (acc ++ [y]))) else Nx H3) := by
  refine lc_pure walk_range (fun i => some (f i)) hz hD (fun _ _ => trivial) (fun i H x H' y => by obtain ⟨e, _⟩ := y; rw [e]; exact Same.refl H) ?_ (fun H' s e => hd H' s (by rw [e, fm_fn]))
  rintro i x H H' Ky Kn hi s1 ⟨rfl, rfl⟩ ky kn
  have key := hs i H' Ky hi s1 (fun H4 s4 => ky _ H4 s4 rfl)
  exact key
end
theorem w_wipe {σ σ' : L2.St} {vs : List Nat} {A : Prop} (e : wipe σ' vs = wipe σ vs) (h : A) : wipe σ' vs = wipe σ vs ∧ A := ⟨e, h⟩
section
variable {g : TG} {tt : TT} {te : TE} {vs : List Nat} {σ : L2.St} {H1 : Hp} {D : Addr} {Qd : Hp → Prop} {J : It} {n : Nat} {G : Hp → Prop} {Y : Nat → Hp → V → Hp → Prop}
/-- a comprehension whose turns change the heap: S by the turn, the list so far and the heap, whatever the new list's place D holds -/
theorem lc_st (w : Walk J n G Y) (S : Nat → List V → Hp → Prop) (hn : n ≤ 1000000) (hst : ∀ i acc H H', Kp [D] H H' → S i acc H → S i acc H') (h0 : S 0 [] (upd H1 D (.lst []))) (hG : ∀ i acc H, S i acc H → G H)
    (hs : ∀ i x acc H H' (Ky : V → Hp → Prop) (Kn : Hp → Prop), i < n → acc.length ≤ i → S i acc H → H D = some (.lst acc) → Y i H x H' → (∀ y H4, H4 D = some (.lst acc) → S (i + 1) (acc ++ [y]) H4 → Ky y H4) → (∀ H3, H3 D = some (.lst acc) → S (i + 1) acc H3 → Kn H3) →
      g x (wipe σ vs) H' fun σ2 H2 => wipe σ2 vs = wipe σ vs ∧ tt σ2 H2 fun b H3 => if b = true then te σ2 H3 Ky else Kn H3)
    (hd : ∀ acc H, acc.length ≤ n → H D = some (.lst acc) → S n acc H → Qd H) :
    ∃ W : Nat → Nat → Hp → Prop, (∃ m, W 0 m (upd H1 D (.lst []))) ∧ ∀ i m H, W i m H →
      (J.stop i H ∧ Qd H) ∨ (J.go i H ∧ ∃ Nx : Hp → Prop, (∀ H', Nx H' → ∃ m', m' < m ∧ W (i + 1) m' H') ∧ ∀ x H', J.yld i H x H' → g x (wipe σ vs) H' fun σ2 H2 => wipe σ2 vs = wipe σ vs ∧ tt σ2 H2 fun b H3 =>
        if b = true then te σ2 H3 fun y H4 => ∃ acc, H4 D = some (.lst acc) ∧ acc.length < sizeLine ∧ Nx (upd H4 D (.lst (acc ++ [y]))) else Nx H3) := by
  refine lc_it w (fun i H => ∃ acc, acc.length ≤ i ∧ S i acc H ∧ H D = some (.lst acc)) ⟨[], Nat.le_refl _, h0, upd_same⟩ (fun i H _ ⟨acc, _, h, _⟩ => hG i acc H h) ?_ (fun H ⟨acc, hl, h, e⟩ => hd acc H hl e h)
  rintro i x H H' hi ⟨acc, hl, hS, e⟩ y
  refine hs i x acc H H' _ _ hi hl hS e y (fun v H4 e4 h4 => ?_) (fun H3 e3 h3 => ⟨acc, by omega, h3, e3⟩)
  have h2 : (sizeLine : Nat) = 16777216 := sizeLine_eq
  exact ⟨acc, e4, by omega, acc ++ [v], by simp; omega, hst _ _ _ _ (kp_upd List.mem_cons_self) h4, upd_same⟩
end

/-! Kd: data compared at any depth, flat data; places of lists. -/
def fD : V → PyData
  | .non => .none
  | .bl b => .bool b
  | .int i => .int i
  | .str x => .str x
  | _ => .none
/-- a flat value whose text, if it is one, has code points that the model counts -/
def okF : V → Bool
  | .non => true
  | .bl _ => true
  | .int _ => true
  | .str x => PyData.strOk x
  | _ => false
section
variable {K : PySem.W.Frag} {H : Hp}
theorem dp_flat {v : V} (h : okF v = true) : Dp K H v (fD v) := by
  cases v with
  | non => exact .non
  | bl b => exact .bl b
  | int i => exact .int i
  | str x => exact .str x
  | _ => cases h
theorem dpAll_flat : ∀ {xs : List V}, xs.all okF = true → DpAll K H xs (xs.map fD)
  | [], _ => .nil
  | x :: xs, h => by
    rw [List.all_cons, Bool.and_eq_true] at h
    exact .cons (dp_flat h.1) (dpAll_flat h.2)
theorem canLay_flat {v : V} (h : okF v = true) : (fD v).canLay0 = true := by
  cases v with
  | str x => simpa [fD, PyData.canLay0, okF] using h
  | _ => first | rfl | cases h
theorem canLayAll_flat : ∀ {xs : List V}, xs.all okF = true → PyData.canLayAll0 (xs.map fD) = true
  | [], _ => rfl
  | x :: xs, h => by
    rw [List.all_cons, Bool.and_eq_true] at h
    simp only [List.map_cons, PyData.canLayAll0, canLay_flat h.1, canLayAll_flat h.2, Bool.and_self]
theorem depth_flat (v : V) : (fD v).depth = 0 := by
  cases v <;> simp [fD, PyData.depth]
theorem depthAll_flat : ∀ (xs : List V), PyData.depthAll (xs.map fD) = 0
  | [] => rfl
  | x :: xs => by simp [PyData.depthAll, depth_flat, depthAll_flat xs]
theorem shaped_flat {v : V} (h : okF v = true) : SeqAt.shaped (fD v) = true := by
  unfold SeqAt.shaped
  rw [canLay_flat h, depth_flat]
  rfl
theorem shaped_lst {xs : List V} (h : xs.all okF = true) : SeqAt.shaped (.list (xs.map fD)) = true := by
  unfold SeqAt.shaped
  simp only [PyData.canLay0, canLayAll_flat h, PyData.depth, depthAll_flat]
  decide
theorem shaped_tup {xs : List V} (h : xs.all okF = true) : SeqAt.shaped (.tuple (xs.map fD)) = true := by
  unfold SeqAt.shaped
  simp only [PyData.canLay0, canLayAll_flat h, PyData.depth, depthAll_flat]
  decide
theorem ints_ok (ns : List Int) : (ns.map V.int).all okF = true := by
  simp [List.all_map, okF]
theorem bls_ok (ns : List Bool) : (ns.map V.bl).all okF = true := by
  simp [List.all_map, okF]
/-- two flat lists or tuples compared -/
theorem eqvAll_flat : ∀ {xs ys : List V}, xs.all okF = true → ys.all okF = true → (∀ x ∈ xs, isS x = true ∨ ∃ i, x = .int i) → (∀ x ∈ ys, isS x = true ∨ ∃ i, x = .int i) → PyData.eqvAll (xs.map fD) (ys.map fD) = decide (xs = ys)
  | [], [], _, _, _, _ => rfl
  | [], y :: ys, _, _, _, _ => by simp [PyData.eqvAll]
  | x :: xs, [], _, _, _, _ => by simp [PyData.eqvAll]
  | x :: xs, y :: ys, hx, hy, tx, ty => by
    rw [List.all_cons, Bool.and_eq_true] at hx hy
    have ih := eqvAll_flat (xs := xs) (ys := ys) hx.2 hy.2 (fun z hz => tx z (List.mem_cons_of_mem _ hz)) (fun z hz => ty z (List.mem_cons_of_mem _ hz))
    simp only [List.map_cons, PyData.eqvAll, ih]
    have e : PyData.eqv (fD x) (fD y) = decide (x = y) := by
      rcases tx x List.mem_cons_self with sx | ⟨i, rfl⟩
      · obtain ⟨a, rfl⟩ := isS_iff.mp sx
        rcases ty y List.mem_cons_self with sy | ⟨j, rfl⟩
        · obtain ⟨b, rfl⟩ := isS_iff.mp sy
          show (a == b) = _
          by_cases q : a = b <;> simp [q]
        · simp [fD, PyData.eqv]
      · rcases ty y List.mem_cons_self with sy | ⟨j, rfl⟩
        · obtain ⟨b, rfl⟩ := isS_iff.mp sy
          simp [fD, PyData.eqv]
        · show (i == j) = _
          by_cases q : i = j <;> simp [q]
    rw [e]
    by_cases q1 : x = y <;> by_cases q2 : xs = ys <;> simp [q1, q2]
theorem eqv_nil (ds : List PyData) : PyData.eqv (.list ds) (.list []) = ds.isEmpty := by
  cases ds <;> rfl
variable {Q : VK}
/-- xs != [] -/
theorem w_neNil {a b : Addr} {xs : List V} (h : xs.all okF = true) (ha : SqL K H a xs) (hb : SqL K H b []) (q : Q (.bl (!xs.isEmpty)) H) : rNeD K (.ref a) (.ref b) H Q := by
  refine ⟨_, _, .lst ha (dpAll_flat h), .lst hb .nil, shaped_lst h, (by decide +kernel), ?_⟩
  rw [eqv_nil, List.isEmpty_map]
  exact q
/-- xs == [] -/
theorem w_eqNil {a b : Addr} {xs : List V} (h : xs.all okF = true) (ha : SqL K H a xs) (hb : SqL K H b []) (q : Q (.bl xs.isEmpty) H) : rEqD K (.ref a) (.ref b) H Q := by
  refine ⟨_, _, .lst ha (dpAll_flat h), .lst hb .nil, shaped_lst h, (by decide +kernel), ?_⟩
  rw [eqv_nil, List.isEmpty_map]
  exact q
/-- an item at a reckoned place within the list -/
theorem at_in {α : Type} {xs : List α} {i : Int} (h0 : 0 ≤ i) (h1 : i < xs.length) : ∃ v, atI xs i = some v ∧ v ∈ xs ∧ xs[i.toNat]? = some v := by
  have hl : i.toNat < xs.length := by omega
  refine ⟨xs[i.toNat], ?_, List.getElem_mem hl, by simp [hl]⟩
  have this : xs[i.toNat]? = some xs[i.toNat] := by simp [hl]
  have r := atI_nat this
  have e : ((i.toNat : Nat) : Int) = i := by omega
  rw [e] at r
  exact r
end


def topS (i : Nat) : Stmt := PySem.Challenge.pw_keptcode_k02_names_and_codewords.main.body.getD i (.Pass ⟨0, 0, 0, 0⟩)
abbrev s_is_name : Stmt := topS 4
abbrev s_is_codeword : Stmt := topS 5
abbrev s__law_pen : Stmt := topS 7
abbrev s__law_next : Stmt := topS 8
abbrev s__law_draw : Stmt := topS 9
abbrev s__law_any : Stmt := topS 10
abbrev s__law_same_truth : Stmt := topS 11
abbrev s__law_word : Stmt := topS 12
abbrev s__law_is_name : Stmt := topS 13
abbrev s__law_is_codeword : Stmt := topS 14
abbrev s_law : Stmt := topS 15
local macro_rules | `(tactic| walk_at "w1") => `(tactic| with_reducible first
  | refine w_seq ?_ | refine w_asg ?_ | refine w_gname ?_ | refine w_var rfl ?_ | refine w_c ?_ | refine w_op ?_ | refine w_cons ?_ | refine w_nil ?_ | refine w_cb ?_ | refine w_rI0 ?_
  | refine w_bl ?_ | refine iteT ?_ | refine iteF ?_ | refine iteNT ?_ | refine iteNF ?_ | refine w_ret ?_ | refine w_ifS ?_ | refine w_test ?_ | refine w_call ?_ | refine w_next ?_ | refine w_drop ?_ | refine w_retN ?_
  | refine w_eqI ?_ | refine w_neI ?_ | refine w_eqS ?_ | refine w_neS ?_ | refine w_inG ?_ | refine w_notInG ?_ | refine w_leS ?_ | refine w_ltS ?_ | refine w_rU ?_ | refine w_ip ?_ | refine w_in ?_
  | refine w_tup ?_ | refine w_lst ?_ | refine w_bm ?_ | refine w_bm0 ?_ | refine w_m1 ?_ | refine w_str ?_ | refine w_sl ?_ | refine w_part ?_ | refine w_nopart ?_ | refine w_un ?_ | refine w_chain ?_
  | refine w_andV ?_ | refine w_orV ?_ | refine w_notV ?_ | refine w_if ?_ | refine w_tB ?_ | refine w_and ?_ | refine w_or ?_ | refine w_not ?_ | refine w_yes ?_ | refine w_gsub ?_ | refine w_gcons ?_ | refine w_gnil ?_
  | refine w_lc ?_ | refine w_for ?_ | refine w_iStr ?_ | refine w_iList ?_ | refine w_iTup ?_ | refine w_iRng1 ?_ | refine w_iRng2 ?_ | refine w_exS ?_ | refine w_wipe rfl ?_ | refine w_par ?_ | refine w_two ?_ | refine w_aug rfl ?_ | refine w_eqB ?_ | refine w_startsN ?_)
local macro_rules | `(tactic| walk_at "num") => `(tactic| first
  | exact Or.inr ⟨by decide, by decide⟩ | exact Or.inl ⟨by omega, by omega⟩ | (show (0 : Int) < _; decide) | (show (0 : Int) < _; omega) | exact ⟨by decide, by decide⟩ | exact ⟨by decide, by decide, by decide⟩ | exact ⟨by omega, by omega⟩)
local macro_rules | `(tactic| walk_at "w") => `(tactic| repeat (first | walk_at "w1" | ((with_reducible refine w_rI ?_ ?_); (walk_at "num")) | (with_reducible refine w_sz (by simp) ?_)))
local macro_rules | `(tactic| walk_at "hp") => `(tactic| first | assumption | exact upd_same | solve_by_elim (maxDepth := 9) [same_at])
local macro_rules | `(tactic| walk_at "sq") => `(tactic| first | assumption | exact SqL.of (by walk_at "hp") | exact SqT.of (by walk_at "hp"))

structure Txt (mg : Str → Option Value) : Prop where
  b_len : mg "len" = none
  b_isinstance : mg "isinstance" = none
  b_all : mg "all" = none
  b_str : mg "str" = none
  b_bool : mg "bool" = none
  b_list : mg "list" = none
  b_tuple : mg "tuple" = none
  b_dict : mg "dict" = none
  b_range : mg "range" = none
  gLETTERS : ∃ t, mg "LETTERS" = some (.str "abcdefghijklmnopqrstuvwxyz" t)
  gDIGITS : ∃ t, mg "DIGITS" = some (.str "0123" t)
  gMAX_NAME : ∃ t, mg "MAX_NAME" = some (.int 8 t)
def isLetter (c : Nat) : Bool := decide (c ∈ (Str.ofString "abcdefghijklmnopqrstuvwxyz").cps.toList)
def isNameS (x : Str) : Bool := decide (1 ≤ x.length) && decide (x.length ≤ 8) && x.cps.toList.all isLetter
def isName : V → Bool | .str x => isNameS x | _ => false
def sp_is_name : Sp := fun vs H Q _ => ∃ v, vs = [v] ∧ AnyV H v ∧ ∀ H', Same H H' → Q (.bl (isName v)) H'
theorem line1000 {n : Nat} (h : n ≤ 1000) : n ≤ sizeLine := Nat.le_of_lt (small1000 h)
theorem isName_not {v : V} (hs : isS v = false) : isName v = false := by
  cases v <;> first | rfl | cases hs
theorem isName_len {x : Str} (h : ¬ (1 ≤ x.length ∧ x.length ≤ 8)) : isName (V.str x) = false := by
  show (decide (1 ≤ x.length) && decide (x.length ≤ 8) && x.cps.toList.all isLetter) = _
  by_cases h1 : 1 ≤ x.length
  · rw [decide_eq_false (fun h2 => h ⟨h1, h2⟩)]; simp
  · rw [decide_eq_false h1]; simp
theorem isName_in {x : Str} (h1 : 1 ≤ x.length) (h2 : x.length ≤ 8) : isName (V.str x) = (x.cps.toList.map isLetter).all id := by
  show (decide (1 ≤ x.length) && decide (x.length ≤ 8) && x.cps.toList.all isLetter) = _
  rw [decide_eq_true h1, decide_eq_true h2]
  simp
section
variable {P : Program} {w : World} {K : PySem.W.Frag} {mg : Str → Option Value} {base : Heap}
theorem sc_is_name : FnScope ["thing", "sign"] ["thing"] (defScope s_is_name) := ⟨rfl, rfl, rfl, by decide +kernel, rfl, by decide +kernel, by decide +kernel⟩
theorem ok_is_name (T : Txt mg) (F : At K mg "is_name" "is_name" s_is_name) : DefOk P w K mg base 1 "is_name" ["thing"] sp_is_name := by
  refine DefOk.of F sc_is_name (fun _ _ _ _ _ _ us hl => match us, hl with | [_], _ => rfl) (fun vs H Q E h => ?_) (fun f cdv A outer s H vs Q E hr h => ?_)
  · obtain ⟨v, rfl, _⟩ := h
    rfl
  · obtain ⟨v, rfl, hv, k⟩ := h
    refine ⟨_, (pss_one (ps_ret (pe_and (pe_callB call_isi (by rfl) T.b_isinstance (by decide +kernel) (pa_cons (pv 0) (pa_cons (pe_ty "str" T.b_str (by decide +kernel)) pa_nil))) (pe_and (pe_chain op_le op_le pe_int (pe_callB cr_len (by rfl) T.b_len (by decide +kernel) (pa_cons (pv 0) pa_nil)) (pe_gi T.gMAX_NAME)) (pe_one (pe_callB (cr_all rfl) (by rfl) T.b_all (by decide +kernel) (pa_cons (pe_lc (own := [("sign", 1)]) (g := gName 1) (tt := tYes) (by rfl) sc_is_name.nd (pi_str (pv 0)) (blkOk_by (N := ["thing", "sign"]) (sc := defScope s_is_name) (by decide +kernel))
    (fun _ _ _ _ _ => (pg_name (i := 1) sc_is_name.nd rfl (Or.inl rfl))) (fun _ _ _ _ _ => pts_nil) (fun _ _ _ _ _ => (pe_cmpR op_inG (pv 1) (pe_gs T.gLETTERS) (by rfl)))) pa_nil))))))), ?_⟩
    walk_at "w"
    refine isi_str hv ?_
    walk_at "w"
    cases hv with
    | str x hx =>
      show if true = true then _ else _
      walk_at "w"
      refine w_lenS (line1000 hx.1) ?_
      walk_at "w"
      refine ifD (fun h1 => ?_) (fun h1 => ?_)
      · walk_at "w"
        refine ifD (fun h2 => ?_) (fun h2 => ?_)
        · walk_at "w"
          intro D hD
          refine lc_textM (fun c => .bl (isLetter c)) (by have := hx.1; omega) hD (fun c H' Ky hc s1 ky => ?_) (fun H' s e => ?_)
          · walk_at "w"
            exact ky _ (Same.refl _)
          · walk_at "w"
            refine w_all (bs := x.cps.toList.map isLetter) (.of (by rw [e]; simp)) ?_
            have ee : isName (V.str x) = (x.cps.toList.map isLetter).all id := by
              show (decide (1 ≤ x.length) && decide (x.length ≤ 8) && x.cps.toList.all isLetter) = _
              rw [decide_eq_true (show 1 ≤ x.length by omega), decide_eq_true (show x.length ≤ 8 by omega)]
              simp
            rw [← ee]
            exact k _ s
        · walk_at "w"
          have ee : isName (V.str x) = false := by
            show (decide (1 ≤ x.length) && decide (x.length ≤ 8) && x.cps.toList.all isLetter) = _
            rw [decide_eq_false (show ¬ x.length ≤ 8 by omega)]
            simp
          rw [← ee]
          exact k _ (Same.refl _)
      · walk_at "w"
        have ee : isName (V.str x) = false := by
          show (decide (1 ≤ x.length) && decide (x.length ≤ 8) && x.cps.toList.all isLetter) = _
          rw [decide_eq_false (show ¬ 1 ≤ x.length by omega)]
          simp
        rw [← ee]
        exact k _ (Same.refl _)
    | _ => exact iteF (k _ (Same.refl H))
end

/-! Pen: the draws of every law. -/
def sp_pen (K : PySem.W.Frag) : Sp := fun vs H Q _ => ∃ (a : Addr) (ns : List Int), vs = [.ref a] ∧ SqL K H a (ns.map V.int) ∧ ns.length ≤ 63 ∧ ∀ H' p l, Same H H' → H p = none → H l = none → PenAt 0 p l H' → Q (.ref p) H'
def sp_next : Sp := fun vs H Q _ => ∃ (p l : Addr) (b : Nat), vs = [.ref p] ∧ PenAt b p l H ∧ b ≤ 1000000000000 ∧ ∀ H' n, Kp [p] H H' → PenAt (b + 1) p l H' → 0 ≤ n → Q (.int n) H'
def sp_draw : Sp := fun vs H Q _ => ∃ (p l : Addr) (b : Nat) (n : Int), vs = [.ref p, .int n] ∧ PenAt b p l H ∧ b ≤ 1000000000000 ∧ 0 < n ∧ n < 1073741824 ∧ ∀ H' d, Kp [p] H H' → PenAt (b + 1) p l H' → 0 ≤ d → d < n → Q (.int d) H'
section
variable {P : Program} {w : World} {K : PySem.W.Frag} {mg : Str → Option Value} {base : Heap}
theorem cut60 (ns : List Int) : cutV (ns.map V.int) none (some 60) = (ns.take 60).map V.int := by
  unfold cutV
  have h1 : HT.sIx (ns.map V.int).length 0 none = 0 := rfl
  have h2 : HT.sIx (ns.map V.int).length (ns.map V.int).length (some 60) = min 60 ns.length := by
    have := HT.sIx_nat (ns.map V.int).length (ns.map V.int).length 60
    rw [List.length_map] at this
    simpa using this
  rw [h1, h2, List.drop_zero, Nat.sub_zero, List.map_take]
  by_cases h : 60 ≤ ns.length
  · rw [Nat.min_eq_left h]
  · rw [Nat.min_eq_right (by omega), List.take_of_length_le (by simp), List.take_of_length_le (by simp; omega)]
theorem sc__law_pen : FnScope ["script"] ["script"] (defScope s__law_pen) := ⟨rfl, rfl, rfl, by decide +kernel, rfl, by decide +kernel, by decide +kernel⟩
theorem ok__law_pen (T : Txt mg) (F : At K mg "_law_pen" "_law_pen" s__law_pen) : DefOk P w K mg base 1 "_law_pen" ["script"] (sp_pen K) := by
  refine DefOk.of F sc__law_pen (fun _ _ _ _ _ _ us hl => match us, hl with | [_], _ => rfl) (fun vs H Q E h => ?_) (fun f cdv A outer s H vs Q E hr h => ?_)
  · obtain ⟨a, ns, rfl, _⟩ := h
    rfl
  · obtain ⟨a, ns, rfl, ha, hl, k⟩ := h
    refine ⟨_, (pss_one (ps_ret (pe_lstN (pa_cons (pe_callTy cr_listOf (by rfl) T.b_list (by decide +kernel) (pa_cons (pe_slice sl_list (pv 0) po_none (po_some pe_int)) pa_nil)) (pa_cons pe_int (pa_cons pe_int pa_nil)))))), ?_⟩
    walk_at "w"
    refine w_slL ha (fun q H1 _ s1 h1 => ?_)
    walk_at "w"
    refine w_listOfL (.of h1) (fun l H2 hl' s2 h2 => ?_)
    walk_at "w"
    refine fun p H3 hp s3 h3 => ?_
    refine k _ p l (s1.trans (s2.trans s3)) (Same.free s1 (Same.free s2 hp)) (Same.free s1 hl') ⟨ns.take 60, 0, 0, h3, ?_, by decide, by decide, by decide, ?_⟩
    · rw [← cut60]
      walk_at "hp"
    · exact ne_of_none h2 hp
theorem sc__law_next : FnScope ["pen", "index", "cell", "low", "mid", "top"] ["pen"] (defScope s__law_next) := ⟨rfl, rfl, rfl, by decide +kernel, rfl, by decide +kernel, by decide +kernel⟩
theorem ok__law_next (T : Txt mg) (F : At K mg "_law_next" "_law_next" s__law_next) : DefOk P w K mg base 1 "_law_next" ["pen"] sp_next := by
  refine DefOk.of F sc__law_next (fun _ _ _ _ _ _ us hl => match us, hl with | [_], _ => rfl) (fun vs H Q E h => ?_) (fun f cdv A outer s H vs Q E hr h => ?_)
  · obtain ⟨p, l, b, rfl, _⟩ := h
    rfl
  · obtain ⟨p, l, b, rfl, hP, hb, k⟩ := h
    obtain ⟨ns, idx, rest, hp, hl, i0, i1, r0, ne⟩ := hP.ex
    refine ⟨_, (pss_cons (ps_set (i := 1) sc__law_next.nd rfl (Or.inl rfl) (pe_ix ix_list (pv 0) pe_int (fun _ _ => rfl)))
    (pss_cons (ps_asg (pe_op op_add (pv 1) pe_int) (pg_sub (pv 0) pe_int set_list))
    (pss_cons (ps_set (i := 2) sc__law_next.nd rfl (Or.inl rfl) (pe_op op_add (pe_op op_mul (pv 1) pe_int) pe_int))
    (pss_cut (ps_if (pt_cmpR (op_neD hr.units) (pe_ix ix_list (pv 0) pe_int (fun _ _ => rfl)) (pe_lstN pa_nil) (nomark _)) (pss_one (ps_set (i := 2) sc__law_next.nd rfl (Or.inl rfl) (pe_ix ix_list (pe_ix ix_list (pv 0) pe_int (fun _ _ => rfl)) (pe_op op_mod (pv 1) (pe_callB cr_len (by rfl) T.b_len (by decide +kernel) (pa_cons (pe_ix ix_list (pv 0) pe_int (fun _ _ => rfl)) pa_nil))) (fun _ _ => rfl))))
      pss_nil)
    (pss_cut (ps_if (PW.pt (pw_and (pt_cmpR op_lt (pv 1) (pe_callB cr_len (by rfl) T.b_len (by decide +kernel) (pa_cons (pe_ix ix_list (pv 0) pe_int (fun _ _ => rfl)) pa_nil)) (nomark _)) (pw_and1 (pt_cmpR op_ge (pv 2) (pe_op op_pow pe_int pe_int) (nomark _))))) (pss_one (ps_ret (pv 2)))
      pss_nil)
    (pss_cons (ps_set (i := 3) sc__law_next.nd rfl (Or.inl rfl) (pe_op op_mod (pe_op op_add (pe_op op_add (pe_op op_mod (pv 2) pe_int) (pe_op op_mul (pv 1) pe_int)) pe_int) pe_int))
    (pss_cons (ps_set (i := 4) sc__law_next.nd rfl (Or.inl rfl) (pe_op op_mod (pe_op op_add (pe_op op_add (pe_op op_mul (pv 3) (pv 3)) (pe_op op_mul (pv 1) pe_int)) pe_int) pe_int))
    (pss_cons (ps_set (i := 5) sc__law_next.nd rfl (Or.inl rfl) (pe_op op_mod (pe_op op_add (pe_op op_add (pe_op op_mul (pv 4) (pv 4)) (pv 3)) (pe_op op_mul (pe_op op_mul (pv 1) (pv 1)) pe_int)) pe_int))
    (pss_one (ps_ret (pe_op op_add (pe_op op_mul (pe_op op_add (pe_op op_mul (pv 5) pe_int) (pv 4)) pe_int) (pv 3)))))))))))), ?_⟩
    walk_at "w"
    refine w_ixL (.of hp) rfl ?_
    walk_at "w"
    refine w_setL' [.ref l, .int (idx + 1), .int rest] 1 hp rfl rfl ?_
    walk_at "w"
    -- the heap from here on
    have kp : Kp [p] H (upd H p (.lst [.ref l, .int (idx + 1), .int rest])) := kp_upd List.mem_cons_self
    have hp1 : (upd H p (.lst [.ref l, .int (idx + 1), .int rest])) p = some (.lst [.ref l, .int (idx + 1), .int rest]) := upd_same
    have hl1 : (upd H p (.lst [.ref l, .int (idx + 1), .int rest])) l = some (.lst (ns.map V.int)) := by rw [upd_ne ne]; exact hl
    generalize upd H p (.lst [.ref l, .int (idx + 1), .int rest]) = H1 at kp hp1 hl1
    have P1 : PenAt (b + 1) p l H1 := ⟨ns, idx + 1, rest, hp1, hl1, by omega, by omega, r0, ne⟩
    refine w_cut (fun σ' H' => ∃ cell : Int, Same H1 H' ∧ σ' = [some (.ref p), some (.int idx), some (.int cell), none, none, none]) ?_ ?_
    · refine w_ifS ?_
      walk_at "w"
      refine w_ixL (.of hp1) rfl ?_
      walk_at "w"
      refine fun q H2 _ s1 hq => ?_
      refine w_neNil (xs := ns.map V.int) (ints_ok ns) (.of (s1 _ _ hl1)) (.of hq) ?_
      walk_at "w"
      refine ifNB (fun hne => ?_) (fun hne => ?_)
      · walk_at "w"
        refine w_ixL (.of (s1 _ _ hp1)) rfl ?_
        walk_at "w"
        refine w_ixL (.of (s1 _ _ hp1)) rfl ?_
        walk_at "w"
        refine w_lenL (.of (s1 _ _ hl1)) ?_
        walk_at "w"
        have hpos : (0 : Int) < ((ns.map V.int).length : Nat) := by
          cases ns with
          | nil => simp at hne
          | cons _ _ => simp
        refine w_rI hpos ?_
        obtain ⟨v, hv, hm, _⟩ := at_in (xs := ns.map V.int) (Int.emod_nonneg idx (Int.ne_of_gt hpos)) (Int.emod_lt_of_pos idx hpos)
        obtain ⟨c, _, rfl⟩ := List.mem_map.mp hm
        refine w_ixL (.of (s1 _ _ hl1)) hv ?_
        walk_at "w"
        exact ⟨c, s1, rfl⟩
      · walk_at "w"
        exact ⟨_, s1, rfl⟩
    · rintro σ' H2 ⟨cell, s1, rfl⟩
      have fin : ∀ n : Int, 0 ≤ n → Q (.int n) H2 := fun n hn => k _ n (kp.trans (same_wo s1 [p])) (P1.keep s1) hn
      refine w_cut (fun σ' H' => H' = H2 ∧ σ' = [some (.ref p), some (.int idx), some (.int cell), none, none, none]) ?_ ?_
      · walk_at "w"
        refine w_ixL (.of (s1 _ _ hp1)) rfl ?_
        walk_at "w"
        refine w_lenL (.of (s1 _ _ hl1)) ?_
        walk_at "w"
        refine ifD (fun h1 => ?_) (fun h1 => ?_)
        · walk_at "w"
          refine ifD (fun h2 => ?_) (fun h2 => ?_)
          · walk_at "w"
            have : (0 : Int) ≤ 10 ^ (Int.toNat 18) := by decide
            exact fin _ (by omega)
          · walk_at "w"
            exact ⟨rfl, rfl⟩
        · walk_at "w"
          exact ⟨rfl, rfl⟩
      · rintro σ' H' ⟨rfl, rfl⟩
        walk_at "w"
        exact fin _ (by omega)
theorem sc__law_draw : FnScope ["pen", "below", "digit"] ["pen", "below"] (defScope s__law_draw) := ⟨rfl, rfl, rfl, by decide +kernel, rfl, by decide +kernel, by decide +kernel⟩
theorem ok__law_draw (T : Txt mg) (F : At K mg "_law_draw" "_law_draw" s__law_draw) (D__law_next : DefOk P w K mg base 1 "_law_next" ["pen"] sp_next) : DefOk P w K mg base 2 "_law_draw" ["pen", "below"] sp_draw := by
  refine DefOk.of F sc__law_draw (fun _ _ _ _ _ _ us hl => match us, hl with | [_, _], _ => rfl) (fun vs H Q E h => ?_) (fun f cdv A outer s H vs Q E hr h => ?_)
  · obtain ⟨p, l, b, n, rfl, _⟩ := h
    rfl
  · obtain ⟨p, l, b, n, rfl, hP, hb, n0, n1, k⟩ := h
    obtain ⟨ns, idx, rest, hp, hl, i0, i1, r0, ne⟩ := hP.ex
    refine ⟨_, (pss_cut (ps_if (pt_cmpR op_lt (pe_ix ix_list (pv 0) pe_int (fun _ _ => rfl)) (pv 1) (nomark _)) (pss_one (ps_asg (pe_callD D__law_next (hr.mono (by decide)) passL (pa_cons (pv 0) pa_nil)) (pg_sub (pv 0) pe_int set_list)))
      pss_nil)
    (pss_cons (ps_set (i := 2) sc__law_draw.nd rfl (Or.inl rfl) (pe_op op_mod (pe_ix ix_list (pv 0) pe_int (fun _ _ => rfl)) (pv 1)))
    (pss_cons (ps_asg (pe_op op_fdiv (pe_ix ix_list (pv 0) pe_int (fun _ _ => rfl)) (pv 1)) (pg_sub (pv 0) pe_int set_list))
    (pss_one (ps_ret (pv 2)))))), ?_⟩
    refine w_cut (fun σ' H' => Kp [p] H H' ∧ PenAt (b + 1) p l H' ∧ σ' = [some (.ref p), some (.int n), none]) ?_ ?_
    · walk_at "w"
      refine w_ixL (.of hp) rfl ?_
      walk_at "w"
      refine ifD (fun h1 => ?_) (fun h1 => ?_)
      · walk_at "w"
        refine ⟨p, l, b, rfl, hP, hb, fun H1 m kp P1 hm => ?_⟩
        obtain ⟨ns, idx, rest, hp, hl, i0, i1, r0, ne⟩ := P1.ex
        walk_at "w"
        refine w_setL' [.ref l, .int idx, .int m] 2 hp rfl rfl ?_
        refine ⟨kp_put kp List.mem_cons_self, ⟨ns, idx, m, upd_same, by rw [upd_ne ne]; exact hl, i0, i1, hm, ne⟩, rfl⟩
      · walk_at "w"
        exact ⟨Same.refl _, hP.mono (by omega), rfl⟩
    · rintro σ' H1 ⟨kp, P1, rfl⟩
      obtain ⟨ns, idx, rest, hp, hl, i0, i1, r0, ne⟩ := P1.ex
      walk_at "w"
      refine w_ixL (.of hp) rfl ?_
      walk_at "w"
      refine w_ixL (.of hp) rfl ?_
      walk_at "w"
      have q0 : 0 ≤ rest / n := Int.ediv_nonneg r0 (Int.le_of_lt n0)
      refine w_setL' [.ref l, .int idx, .int (rest / n)] 2 hp rfl rfl ?_
      walk_at "w"
      exact k _ _ (kp_put kp List.mem_cons_self) ⟨ns, idx, _, upd_same, by rw [upd_ne ne]; exact hl, i0, i1, q0, ne⟩ (Int.emod_nonneg _ (Int.ne_of_gt n0)) (Int.emod_lt_of_pos _ n0)
end

/-! Kt: texts. -/
def rJoin (K : PySem.W.Frag) : V → List V → Hp → VK → Prop := fun x xs H Q => ∃ a p, ∃ ys : List Str, x = .str a ∧ xs = [.ref p] ∧ (SqL K H p (ys.map V.str) ∨ SqT K H p (ys.map V.str)) ∧
  (ys.map (·.length)).sum + ys.length * a.length ≤ 16777216 ∧ Q (.str (Txt.join a ys)) H
theorem mt_joinN {X : Cx} {K : PySem.W.Frag} (h : X.K = K := by rfl) : MtR X "str.join" (rJoin K) := by subst h; exact mt_join
theorem pe_joinN {X : Cx} {o e : Expr} {to te : TE} {apos pos : Pos} {K : PySem.W.Frag} (ho : PE X o to) (he : PE X e te) (hK : X.K = K := by rfl) (hs : starEach [e] X.env = [(false, eval e X.env)] := by rfl) (hbase : attributeBase o "join" X.env (eval o X.env) = eval o X.env := by rfl) (hline : (apos.endLine == pos.line) = true := by rfl) :
    PE X (.Call (.Attribute o "join" apos) [e] [] pos) (tM1 (rJoin K) to te) := pe_m1 PySem.F.slot_str_join PySem.F.type_str_join (mt_joinN hK) ho he hs hbase hline
def rStarts : V → List V → Hp → VK → Prop := fun x xs H Q => ∃ a b, x = .str a ∧ xs = [.str b] ∧ Q (.bl (Txt.startswith a b)) H
theorem mt_startsN {X : Cx} : MtR X "str.startswith" rStarts := mt_startswith
section
variable {H : Hp} {Q : VK} {K : PySem.W.Frag}
theorem w_join {a : Str} {p : Addr} {ys : List Str} (hp : SqL K H p (ys.map V.str)) (hz : (ys.map (·.length)).sum + ys.length * a.length ≤ 16777216) (h : Q (.str (Txt.join a ys)) H) : rJoin K (.str a) [.ref p] H Q := ⟨a, p, ys, rfl, rfl, .inl hp, hz, h⟩
theorem w_startsN {a b : Str} (h : Q (.bl (Txt.startswith a b)) H) : rStarts (.str a) [.str b] H Q := ⟨a, b, rfl, rfl, h⟩
end
theorem joinL_nil : ∀ parts : List (List Nat), joinL [] parts = parts.flatten
  | [] => rfl
  | [x] => by simp [joinL]
  | x :: y :: r => by
    have ih := joinL_nil (y :: r)
    simp only [joinL, List.flatten_cons] at ih ⊢
    simp [ih]
theorem tl_join0 (ys : List Str) : tl (Txt.join "" ys) = (ys.map tl).flatten := by
  rw [join_eq, tl_join, show tl (Str.ofString "") = [] from rfl, joinL_nil]
theorem len_join0 (ys : List Str) : (Txt.join "" ys).length = (ys.map (·.length)).sum := by
  rw [len_tl, tl_join0, List.length_flatten, List.map_map]
  rfl
/-- texts of one sign each -/
theorem sum_ones : ∀ {ys : List Str}, (∀ y ∈ ys, y.length = 1) → (ys.map (·.length)).sum = ys.length
  | [], _ => rfl
  | y :: r, h => by
    rw [List.map_cons, List.sum_cons, h y List.mem_cons_self, sum_ones fun z hz => h z (List.mem_cons_of_mem _ hz), List.length_cons]
    omega
theorem list_str_of {acc : List V} (h : ∀ v ∈ acc, ∃ s : Str, v = .str s ∧ s.length = 1) : ∃ ys : List Str, acc = ys.map V.str ∧ ∀ y ∈ ys, y.length = 1 := by
  induction acc with
  | nil => exact ⟨[], rfl, fun _ h => nomatch h⟩
  | cons v r ih =>
    obtain ⟨s, e, hs⟩ := h v List.mem_cons_self
    obtain ⟨ys, e2, h2⟩ := ih fun w hw => h w (List.mem_cons_of_mem _ hw)
    exact ⟨s :: ys, by rw [e, e2]; rfl, fun y hy => by rcases List.mem_cons.mp hy with rfl | hy; exact hs; exact h2 y hy⟩
theorem cutS_le (z : Str) (lo hi : Option Int) : (cutS z lo hi).length ≤ z.length := cutS_length z lo hi
theorem cutS_mem {z : Str} {lo hi : Option Int} {c : Nat} (h : c ∈ (cutS z lo hi).cps.toList) : c ∈ z.cps.toList := by
  unfold cutS at h
  simp only at h
  exact List.mem_of_mem_drop (List.mem_of_mem_take h)
theorem strOk_iff {x : Str} : PyData.strOk x = true ↔ ∀ c ∈ x.cps.toList, c < 0x110000 := by
  unfold PyData.strOk
  rw [← Array.all_toList, List.all_eq_true]
  simp
theorem okS_cut {z : Str} (h : okS z) (lo hi : Option Int) : okS (cutS z lo hi) :=
  ⟨Nat.le_trans (cutS_le z lo hi) h.1, strOk_iff.mpr fun c hc => strOk_iff.mp h.2 c (cutS_mem hc)⟩
theorem len_app (a b : Str) : (a ++ b).length = a.length + b.length := by
  rw [len_tl, tl_append, List.length_append, ← len_tl, ← len_tl]
theorem okS_app {a b : Str} (ha : okS a) (hb : okS b) (h : a.length + b.length ≤ 1000) : okS (a ++ b) := by
  refine ⟨by rw [len_app]; exact h, strOk_iff.mpr fun c hc => ?_⟩
  have e : (a ++ b).cps.toList = a.cps.toList ++ b.cps.toList := tl_append a b
  rw [e] at hc
  rcases List.mem_append.mp hc with hc | hc
  · exact strOk_iff.mp ha.2 c hc
  · exact strOk_iff.mp hb.2 c hc
theorem okS_sign {z : Str} (h : okS z) {c : Nat} (hc : c ∈ z.cps.toList) : okS ⟨#[c]⟩ := by
  refine ⟨by show 1 ≤ 1000; decide, strOk_iff.mpr fun d hd => ?_⟩
  have e : d = c := by simpa using hd
  rw [e]
  exact strOk_iff.mp h.2 c hc

/-! Kk: dicts; comprehensions whose items are told by a relation. -/
theorem all_putK {Pr : Key → V → Prop} {kvs : List (Key × V)} {k : Key} {v : V} (h : ∀ kv ∈ kvs, Pr kv.1 kv.2) (hv : Pr k v) : ∀ kv ∈ putK kvs k v, Pr kv.1 kv.2 := by
  intro kv hm
  unfold putK at hm
  split at hm
  · obtain ⟨q, hq, e⟩ := List.mem_map.mp hm
    by_cases z : q.1 = k
    · rw [if_pos z] at e
      subst e
      show Pr q.1 v
      rw [z]; exact hv
    · rw [if_neg z] at e
      subst e
      exact h _ hq
  · rcases List.mem_append.mp hm with hm | hm
    · exact h _ hm
    · obtain rfl := List.mem_singleton.mp hm
      exact hv
theorem all_mergeK {Pr : Key → V → Prop} : ∀ {kvs acc : List (Key × V)}, (∀ kv ∈ kvs, Pr kv.1 kv.2) → (∀ kv ∈ acc, Pr kv.1 kv.2) → ∀ kv ∈ mergeK acc kvs, Pr kv.1 kv.2
  | [], _, _, h => h
  | (k, v) :: r, acc, h1, h2 => by
    show ∀ kv ∈ mergeK (putK acc k v) r, Pr kv.1 kv.2
    exact all_mergeK (fun kv hm => h1 kv (List.mem_cons_of_mem _ hm)) (all_putK h2 (h1 (k, v) List.mem_cons_self))
section
variable {H : Hp} {Q : VK} {K : PySem.W.Frag}
theorem w_dictP {a : Addr} {ps : List Addr} (kvs : List (Key × V)) (ha : SqL K H a (ps.map V.ref)) (hp : Paired (fun p kv => SqT K H p [kV kv.1, kv.2]) ps kvs) (h : New (.dK (mergeK [] kvs)) H Q) : rDictP K [.ref a] H Q :=
  ⟨a, ps, kvs, rfl, ha, hp, fun _ hp => h.go hp⟩
end
theorem paired_of {α β : Type} {F : α → β → Prop} : ∀ {xs : List α} {ys : List β}, xs.length = ys.length → (∀ (i : Nat) x y, xs[i]? = some x → ys[i]? = some y → F x y) → Paired F xs ys
  | [], [], _, _ => .nil
  | [], _ :: _, e, _ => by simp at e
  | _ :: _, [], e, _ => by simp at e
  | x :: xs, y :: ys, e, h => .cons (h 0 x y rfl rfl) (paired_of (by simpa using e) fun i x' y' h1 h2 => h (i + 1) x' y' (by simpa using h1) (by simpa using h2))
theorem same_kp1 {H H1 H2 : Hp} {D : Addr} (s : Same H H1) (hD : H D = none) (k : Kp [D] H1 H2) : Same H H2 := fun b o h => kp_at k (by simpa using ne_of_none h hD) (s b o h)
section
variable {g : TG} {tt : TT} {te : TE} {vs : List Nat} {σ : L2.St} {H1 : Hp} {D : Addr} {Qd : Hp → Prop} {J : It} {n : Nat} {G : Hp → Prop} {Y : Nat → Hp → V → Hp → Prop}
/-- a pure comprehension without a test, each item told by R (its new parts stand apart from D) -/
theorem lc_rel (w : Walk J n G Y) (R : Nat → V → Hp → Prop) (hR : ∀ i v H H', Same H H' → R i v H → R i v H') (hn : n ≤ 1000000) (hD : H1 D = none) (hG : ∀ H, Same H1 H → G H) (hY : ∀ i H x H', Y i H x H' → Same H H')
    (hs : ∀ i x H H' (Ky : V → Hp → Prop), i < n → Same H1 H → (∃ o, H D = some o) → Y i H x H' → (∀ y H4, Same H' H4 → R i y (wo [D] H4) → Ky y H4) →
      g x (wipe σ vs) H' fun σ2 H2 => wipe σ2 vs = wipe σ vs ∧ te σ2 H2 Ky)
    (hd : ∀ ys H, ys.length = n → (∀ (i : Nat) v, ys[i]? = some v → R i v H) → Same H1 H → H D = some (.lst ys) → Qd H) :
    ∃ W : Nat → Nat → Hp → Prop, (∃ m, W 0 m (upd H1 D (.lst []))) ∧ ∀ i m H, W i m H →
      (J.stop i H ∧ Qd H) ∨ (J.go i H ∧ ∃ Nx : Hp → Prop, (∀ H', Nx H' → ∃ m', m' < m ∧ W (i + 1) m' H') ∧ ∀ x H', J.yld i H x H' → g x (wipe σ vs) H' fun σ2 H2 => wipe σ2 vs = wipe σ vs ∧ tYes σ2 H2 fun b H3 =>
        if b = true then te σ2 H3 fun y H4 => ∃ acc, H4 D = some (.lst acc) ∧ acc.length < sizeLine ∧ Nx (upd H4 D (.lst (acc ++ [y]))) else Nx H3) := by
  refine lc_st w (fun i acc H => Same H1 H ∧ acc.length = i ∧ ∀ (j : Nat) v, acc[j]? = some v → R j v (wo [D] H)) hn ?_ ⟨same_upd hD, rfl, fun j v h => by simp at h⟩ (fun _ _ H h => hG H h.1) ?_ ?_
  · rintro i acc H H' kd ⟨s1, hl, h⟩
    exact ⟨same_kp1 s1 hD kd, hl, fun j v e => hR _ _ _ _ kd (h j v e)⟩
  · rintro i x acc H H' Ky Kn hi _ ⟨s1, hl, h⟩ eD y ky kn
    have s2 := hY _ _ _ _ y
    have key := hs i x H H' Ky hi s1 ⟨_, eD⟩ y (fun v H4 s4 r => ky v H4 (s4 _ _ (s2 _ _ eD)) ⟨s1.trans (s2.trans s4), by simp [hl], fun j u e => ?_⟩)
    · exact key
    · have st := same_wo (s2.trans s4) [D]
      by_cases q : j < acc.length
      · rw [List.getElem?_append_left q] at e
        exact hR _ _ _ _ st (h j u e)
      · rw [List.getElem?_append_right (by omega)] at e
        have z : j - acc.length = 0 := by
          cases z : j - acc.length with
          | zero => rfl
          | succ k => rw [z] at e; simp at e
        rw [z] at e
        have e' : v = u := Option.some.inj e
        subst e'
        have : j = i := by omega
        subst this
        exact r
  · rintro acc H _ e ⟨s1, hl, h⟩
    exact hd acc H hl (fun j v q => hR _ _ _ _ (wo_same [D] H) (h j v q)) s1 e
end
def adrOf : V → Addr
  | .ref a => a
  | _ => 0
/-- items that are all addresses -/
theorem refs_of {ys : List V} (h : ∀ v ∈ ys, ∃ T, v = V.ref T) : ys = (ys.map adrOf).map V.ref := by
  induction ys with
  | nil => rfl
  | cons v r ih =>
    obtain ⟨T, rfl⟩ := h v List.mem_cons_self
    rw [List.map_cons, List.map_cons, ← ih fun w hw => h w (List.mem_cons_of_mem _ hw)]
    rfl
/-- a list of pairs, each a tuple of a key and a value, in the words of dict(..) -/
theorem pairs_ok {K : PySem.W.Frag} {H : Hp} {ys : List V} {kvs : List (Key × V)} (hl : ys.length = kvs.length) (h : ∀ (i : Nat) v kv, ys[i]? = some v → kvs[i]? = some kv → ∃ T, v = V.ref T ∧ H T = some (.tup [kV kv.1, kv.2])) :
    ys = (ys.map adrOf).map V.ref ∧ Paired (fun p (kv : Key × V) => SqT K H p [kV kv.1, kv.2]) (ys.map adrOf) kvs := by
  refine ⟨refs_of fun v hv => ?_, paired_of (by rw [List.length_map]; exact hl) fun i x kv h1 h2 => ?_⟩
  · obtain ⟨i, hi, e⟩ := List.getElem_of_mem hv
    have h1 : ys[i]? = some v := by rw [← e]; simp [hi]
    have hi2 : i < kvs.length := by omega
    obtain ⟨T, e, _⟩ := h i v kvs[i] h1 (by simp [hi2])
    exact ⟨T, e⟩
  · rw [List.getElem?_map] at h1
    cases e : ys[i]? with
    | none => rw [e] at h1; cases h1
    | some v =>
      rw [e] at h1
      obtain ⟨T, rfl, eT⟩ := h i v kv e h2
      have h1' : adrOf (.ref T) = x := Option.some.inj h1
      subst h1'
      exact .of eT

def isDig (r : Int) (c : Nat) : Bool := decide (48 ≤ c) && decide ((c : Int) < 48 + r)
def isCode (r h : Int) : V → Bool
  | .str x => decide (1 ≤ x.length) && decide ((x.length : Int) ≤ h) && x.cps.toList.all (isDig r)
  | _ => false
def sp_is_codeword : Sp := fun vs H Q _ => ∃ (r h : Int) (v : V), vs = [.int r, .int h, v] ∧ 2 ≤ r ∧ r ≤ 4 ∧ AnyV H v ∧ ∀ H', Same H H' → Q (.bl (isCode r h v)) H'
theorem dig_cut {r : Int} (h2 : 2 ≤ r) (h4 : r ≤ 4) (c : Nat) : decide (c ∈ (cutS (Str.ofString "0123") none (some r)).cps.toList) = isDig r c := by
  have h : r = 2 ∨ r = 3 ∨ r = 4 := by omega
  rcases h with rfl | rfl | rfl
  · have e : (cutS (Str.ofString "0123") none (some 2)).cps.toList = [48, 49] := by decide +kernel
    rw [e, Bool.eq_iff_iff]; simp [isDig]; omega
  · have e : (cutS (Str.ofString "0123") none (some 3)).cps.toList = [48, 49, 50] := by decide +kernel
    rw [e, Bool.eq_iff_iff]; simp [isDig]; omega
  · have e : (cutS (Str.ofString "0123") none (some 4)).cps.toList = [48, 49, 50, 51] := by decide +kernel
    rw [e, Bool.eq_iff_iff]; simp [isDig]; omega
theorem isCode_not {r h : Int} {v : V} (hs : isS v = false) : isCode r h v = false := by
  cases v <;> first | rfl | cases hs
section
variable {P : Program} {w : World} {K : PySem.W.Frag} {mg : Str → Option Value} {base : Heap}
theorem sc_is_codeword : FnScope ["radix", "depth", "thing", "sign"] ["radix", "depth", "thing"] (defScope s_is_codeword) := ⟨rfl, rfl, rfl, by decide +kernel, rfl, by decide +kernel, by decide +kernel⟩
theorem ok_is_codeword (T : Txt mg) (F : At K mg "is_codeword" "is_codeword" s_is_codeword) : DefOk P w K mg base 1 "is_codeword" ["radix", "depth", "thing"] sp_is_codeword := by
  refine DefOk.of F sc_is_codeword (fun _ _ _ _ _ _ us hl => match us, hl with | [_, _, _], _ => rfl) (fun vs H Q E h => ?_) (fun f cdv A outer s H vs Q E hr h => ?_)
  · obtain ⟨r, h, v, rfl, _⟩ := h
    rfl
  · obtain ⟨r, h, v, rfl, r2, r4, hv, k⟩ := h
    refine ⟨_, (pss_cut (ps_if (PW.pt (pw_or (pt_not (pt_val (pe_callB (cr_isi (K := K)) (by rfl) T.b_isinstance (by decide +kernel) (pa_cons (pv 2) (pa_cons (pe_ty "str" T.b_str (by decide +kernel)) pa_nil))))) (pw_or1 (pt_not (pt_chain op_le op_le pe_int (pe_callB (cr_len (K := K)) (by rfl) T.b_len (by decide +kernel) (pa_cons (pv 2) pa_nil)) (pv 1)))))) (pss_one (ps_ret pe_bl))
      pss_nil)
    (pss_one (ps_ret (pe_callB (crAll (K := K) rfl) (by rfl) T.b_all (by decide +kernel) (pa_cons (pe_lc (own := [("sign", 3)]) (g := gName 3) (tt := tYes) (by rfl) sc_is_codeword.nd (pi_str (pv 2)) (blkOk_by (N := ["radix", "depth", "thing", "sign"]) (sc := defScope s_is_codeword) (by decide +kernel))
    (fun _ _ _ _ _ => (pg_name (i := 3) sc_is_codeword.nd rfl (Or.inl rfl))) (fun _ _ _ _ _ => pts_nil) (fun _ _ _ _ _ => (pe_cmpR op_inG (pv 3) (pe_slice sl_str (pe_gs T.gDIGITS) po_none (po_some (pv 0))) (by rfl)))) pa_nil))))), ?_⟩
    rcases isS_or v with ⟨x, rfl⟩ | hs
    · skip
      refine w_cut (fun σ' H' => H' = H ∧ 1 ≤ x.length ∧ (x.length : Int) ≤ h ∧ σ' = [some (.int r), some (.int h), some (.str x), none]) ?_ ?_
      · walk_at "w"
        refine isi_str hv ?_
        walk_at "w"
        show if (!true) = true then _ else _
        walk_at "w"
        refine w_lenS (line1000 hv.okS.1) ?_
        walk_at "w"
        refine ifD (fun h1 => ?_) (fun h1 => ?_)
        · walk_at "w"
          refine ifND (fun h2 => ?_) (fun h2 => ?_)
          · walk_at "w"
            have ee : isCode r h (V.str x) = false := by
              show (decide (1 ≤ x.length) && decide ((x.length : Int) ≤ h) && _) = _
              rw [decide_eq_false h2]; simp
            rw [← ee]
            exact k _ (Same.refl _)
          · walk_at "w"
            exact ⟨rfl, by omega, h2, rfl⟩
        · walk_at "w"
          have ee : isCode r h (V.str x) = false := by
            show (decide (1 ≤ x.length) && decide ((x.length : Int) ≤ h) && _) = _
            rw [decide_eq_false (show ¬ 1 ≤ x.length by omega)]; simp
          rw [← ee]
          exact k _ (Same.refl _)
      · rintro σ' H' ⟨rfl, h1, h2, rfl⟩
        walk_at "w"
        intro D hD
        refine lc_textM (fun c => .bl (isDig r c)) (by have := hv.okS.1; omega) hD (fun c H2 Ky hc s1 ky => ?_) (fun H2 s e => ?_)
        · walk_at "w"
          refine w_slS (by decide) ?_
          walk_at "w"
          rw [dig_cut r2 r4]
          exact ky _ (Same.refl _)
        · walk_at "w"
          refine w_all (bs := x.cps.toList.map (isDig r)) (.of (by rw [e]; simp)) ?_
          have ee : isCode r h (V.str x) = (x.cps.toList.map (isDig r)).all id := by
            show (decide (1 ≤ x.length) && decide ((x.length : Int) ≤ h) && x.cps.toList.all (isDig r)) = _
            rw [decide_eq_true h1, decide_eq_true h2]
            simp
          rw [← ee]
          exact k _ s
    · refine w_cut (fun _ _ => False) ?_ (fun _ _ h => h.elim)
      walk_at "w"
      refine isi_str hv ?_
      rw [hs]
      walk_at "w"
      rw [← isCode_not (r := r) (h := h) hs]
      exact k _ (Same.refl _)
theorem sc__law_is_codeword : FnScope ["radix", "depth", "thing", "sign"] ["radix", "depth", "thing"] (defScope s__law_is_codeword) := ⟨rfl, rfl, rfl, by decide +kernel, rfl, by decide +kernel, by decide +kernel⟩
theorem ok__law_is_codeword (T : Txt mg) (F : At K mg "_law_is_codeword" "_law_is_codeword" s__law_is_codeword) : DefOk P w K mg base 1 "_law_is_codeword" ["radix", "depth", "thing"] sp_is_codeword := by
  refine DefOk.of F sc__law_is_codeword (fun _ _ _ _ _ _ us hl => match us, hl with | [_, _, _], _ => rfl) (fun vs H Q E h => ?_) (fun f cdv A outer s H vs Q E hr h => ?_)
  · obtain ⟨r, h, v, rfl, _⟩ := h
    rfl
  · obtain ⟨r, h, v, rfl, r2, r4, hv, k⟩ := h
    refine ⟨_, (pss_cut (ps_if (PW.pt (pw_or (pt_not (pt_val (pe_callB (cr_isi (K := K)) (by rfl) T.b_isinstance (by decide +kernel) (pa_cons (pv 2) (pa_cons (pe_ty "str" T.b_str (by decide +kernel)) pa_nil))))) (pw_or1 (pt_not (pt_chain op_le op_le pe_int (pe_callB (cr_len (K := K)) (by rfl) T.b_len (by decide +kernel) (pa_cons (pv 2) pa_nil)) (pv 1)))))) (pss_one (ps_ret pe_bl))
      pss_nil)
    (pss_one (ps_ret (pe_callB (crAll (K := K) rfl) (by rfl) T.b_all (by decide +kernel) (pa_cons (pe_lc (own := [("sign", 3)]) (g := gName 3) (tt := tYes) (by rfl) sc__law_is_codeword.nd (pi_str (pv 2)) (blkOk_by (N := ["radix", "depth", "thing", "sign"]) (sc := defScope s__law_is_codeword) (by decide +kernel))
    (fun _ _ _ _ _ => (pg_name (i := 3) sc__law_is_codeword.nd rfl (Or.inl rfl))) (fun _ _ _ _ _ => pts_nil) (fun _ _ _ _ _ => (pe_cmpR op_inG (pv 3) (pe_slice sl_str pe_str po_none (po_some (pv 0))) (by rfl)))) pa_nil))))), ?_⟩
    rcases isS_or v with ⟨x, rfl⟩ | hs
    · skip
      refine w_cut (fun σ' H' => H' = H ∧ 1 ≤ x.length ∧ (x.length : Int) ≤ h ∧ σ' = [some (.int r), some (.int h), some (.str x), none]) ?_ ?_
      · walk_at "w"
        refine isi_str hv ?_
        walk_at "w"
        show if (!true) = true then _ else _
        walk_at "w"
        refine w_lenS (line1000 hv.okS.1) ?_
        walk_at "w"
        refine ifD (fun h1 => ?_) (fun h1 => ?_)
        · walk_at "w"
          refine ifND (fun h2 => ?_) (fun h2 => ?_)
          · walk_at "w"
            have ee : isCode r h (V.str x) = false := by
              show (decide (1 ≤ x.length) && decide ((x.length : Int) ≤ h) && _) = _
              rw [decide_eq_false h2]; simp
            rw [← ee]
            exact k _ (Same.refl _)
          · walk_at "w"
            exact ⟨rfl, by omega, h2, rfl⟩
        · walk_at "w"
          have ee : isCode r h (V.str x) = false := by
            show (decide (1 ≤ x.length) && decide ((x.length : Int) ≤ h) && _) = _
            rw [decide_eq_false (show ¬ 1 ≤ x.length by omega)]; simp
          rw [← ee]
          exact k _ (Same.refl _)
      · rintro σ' H' ⟨rfl, h1, h2, rfl⟩
        walk_at "w"
        intro D hD
        refine lc_textM (fun c => .bl (isDig r c)) (by have := hv.okS.1; omega) hD (fun c H2 Ky hc s1 ky => ?_) (fun H2 s e => ?_)
        · walk_at "w"
          refine w_slS (by decide) ?_
          walk_at "w"
          rw [dig_cut r2 r4]
          exact ky _ (Same.refl _)
        · walk_at "w"
          refine w_all (bs := x.cps.toList.map (isDig r)) (.of (by rw [e]; simp)) ?_
          have ee : isCode r h (V.str x) = (x.cps.toList.map (isDig r)).all id := by
            show (decide (1 ≤ x.length) && decide ((x.length : Int) ≤ h) && x.cps.toList.all (isDig r)) = _
            rw [decide_eq_true h1, decide_eq_true h2]
            simp
          rw [← ee]
          exact k _ s
    · refine w_cut (fun _ _ => False) ?_ (fun _ _ h => h.elim)
      walk_at "w"
      refine isi_str hv ?_
      rw [hs]
      walk_at "w"
      rw [← isCode_not (r := r) (h := h) hs]
      exact k _ (Same.refl _)
theorem letter_le (c : Nat) : isLetter c = ((!decide (([c] : List Nat) < (Str.ofString "a").cps.toList)) && (!decide ((Str.ofString "z").cps.toList < ([c] : List Nat)))) := by
  have e : (Str.ofString "abcdefghijklmnopqrstuvwxyz").cps.toList = List.range' 97 26 := by decide +kernel
  have ea : (Str.ofString "a").cps.toList = [97] := by decide +kernel
  have ez : (Str.ofString "z").cps.toList = [122] := by decide +kernel
  unfold isLetter
  rw [e, ea, ez, Bool.eq_iff_iff]
  simp [List.mem_range'_1, List.cons_lt_cons_iff]
  omega
theorem sc__law_is_name : FnScope ["thing", "sign"] ["thing"] (defScope s__law_is_name) := ⟨rfl, rfl, rfl, by decide +kernel, rfl, by decide +kernel, by decide +kernel⟩
theorem ok__law_is_name (T : Txt mg) (F : At K mg "_law_is_name" "_law_is_name" s__law_is_name) : DefOk P w K mg base 1 "_law_is_name" ["thing"] sp_is_name := by
  refine DefOk.of F sc__law_is_name (fun _ _ _ _ _ _ us hl => match us, hl with | [_], _ => rfl) (fun vs H Q E h => ?_) (fun f cdv A outer s H vs Q E hr h => ?_)
  · obtain ⟨v, rfl, _⟩ := h
    rfl
  · obtain ⟨v, rfl, hv, k⟩ := h
    refine ⟨_, (pss_cut (ps_if (PW.pt (pw_or (pt_not (pt_val (pe_callB (cr_isi (K := K)) (by rfl) T.b_isinstance (by decide +kernel) (pa_cons (pv 0) (pa_cons (pe_ty "str" T.b_str (by decide +kernel)) pa_nil))))) (pw_or1 (pt_not (pt_chain op_le op_le pe_int (pe_callB (cr_len (K := K)) (by rfl) T.b_len (by decide +kernel) (pa_cons (pv 0) pa_nil)) pe_int))))) (pss_one (ps_ret pe_bl))
      pss_nil)
    (pss_one (ps_ret (pe_callB (crAll (K := K) rfl) (by rfl) T.b_all (by decide +kernel) (pa_cons (pe_lc (own := [("sign", 1)]) (g := gName 1) (tt := tYes) (by rfl) sc__law_is_name.nd (pi_str (pv 0)) (blkOk_by (N := ["thing", "sign"]) (sc := defScope s__law_is_name) (by decide +kernel))
    (fun _ _ _ _ _ => (pg_name (i := 1) sc__law_is_name.nd rfl (Or.inl rfl))) (fun _ _ _ _ _ => pts_nil) (fun _ _ _ _ _ => (pe_chain op_leS op_leS pe_str (pv 1) pe_str))) pa_nil))))), ?_⟩
    rcases isS_or v with ⟨x, rfl⟩ | hs
    · refine w_cut (fun σ' H' => H' = H ∧ 1 ≤ x.length ∧ x.length ≤ 8 ∧ σ' = [some (.str x), none]) ?_ ?_
      · walk_at "w"
        refine isi_str hv ?_
        walk_at "w"
        show if (!true) = true then _ else _
        walk_at "w"
        refine w_lenS (line1000 hv.okS.1) ?_
        walk_at "w"
        refine ifD (fun h1 => ?_) (fun h1 => ?_)
        · walk_at "w"
          refine ifND (fun h2 => ?_) (fun h2 => ?_)
          · walk_at "w"
            rw [← isName_len (x := x) (by omega)]
            exact k _ (Same.refl _)
          · walk_at "w"
            exact ⟨rfl, by omega, by omega, rfl⟩
        · walk_at "w"
          rw [← isName_len (x := x) (by omega)]
          exact k _ (Same.refl _)
      · rintro σ' H' ⟨rfl, h1, h2, rfl⟩
        walk_at "w"
        intro D hD
        refine lc_textM (fun c => .bl (isLetter c)) (by omega) hD (fun c H2 Ky hc s1 ky => ?_) (fun H2 s e => ?_)
        · walk_at "w"
          have kf := ky _ (Same.refl _)
          rw [letter_le] at kf
          refine ifNB (fun q => ?_) (fun q => ?_)
          · rw [q] at kf
            walk_at "w"
            exact kf
          · rw [q] at kf
            exact kf
        · walk_at "w"
          refine w_all (bs := x.cps.toList.map isLetter) (.of (by rw [e]; simp)) ?_
          rw [← isName_in h1 h2]
          exact k _ s
    · refine w_cut (fun _ _ => False) ?_ (fun _ _ h => h.elim)
      walk_at "w"
      refine isi_str hv ?_
      rw [hs]
      walk_at "w"
      rw [← isName_not hs]
      exact k _ (Same.refl _)
/-- both are bools and the same -/
def sp_same_truth : Sp := fun vs H Q _ => ∃ a b : Bool, vs = [.bl a, .bl b] ∧ ∀ H', Same H H' → Q (.bl (decide (a = b))) H'
theorem sc__law_same_truth : FnScope ["result", "expected"] ["result", "expected"] (defScope s__law_same_truth) := ⟨rfl, rfl, rfl, by decide +kernel, rfl, by decide +kernel, by decide +kernel⟩
theorem ok__law_same_truth (T : Txt mg) (F : At K mg "_law_same_truth" "_law_same_truth" s__law_same_truth) : DefOk P w K mg base 1 "_law_same_truth" ["result", "expected"] sp_same_truth := by
  refine DefOk.of F sc__law_same_truth (fun _ _ _ _ _ _ us hl => match us, hl with | [_, _], _ => rfl) (fun vs H Q E h => ?_) (fun f cdv A outer s H vs Q E hr h => ?_)
  · obtain ⟨a, b, rfl, _⟩ := h
    rfl
  · obtain ⟨a, b, rfl, k⟩ := h
    refine ⟨_, (pss_one (ps_ret (pe_and (pe_callB (cr_isi (K := K)) (by rfl) T.b_isinstance (by decide +kernel) (pa_cons (pv 0) (pa_cons (pe_ty "bool" T.b_bool (by decide +kernel)) pa_nil))) (pe_one (pe_cmpR op_eq (pv 0) (pv 1) (nomark _)))))), ?_⟩
    walk_at "w"
    refine isi_bool (.bl a) ?_
    walk_at "w"
    show if true = true then _ else _
    walk_at "w"
    exact k _ (Same.refl _)
/-- a text of at most m signs -/
def sp_word : Sp := fun vs H Q _ => ∃ (p l : Addr) (b : Nat) (z : Str) (m : Int), vs = [.ref p, .str z, .int m] ∧ PenAt b p l H ∧ b + 1000 ≤ 1000000000000 ∧ 0 < z.length ∧ z.length ≤ 1000 ∧ 0 ≤ m ∧ m ≤ 100 ∧
  ∀ H' x, Kp [p] H H' → PenAt (b + 200) p l H' → (x.length : Int) ≤ m → (∀ c ∈ x.cps.toList, c ∈ z.cps.toList) → Q (.str x) H'
theorem sc__law_word : FnScope ["pen", "signs", "most", "turn"] ["pen", "signs", "most"] (defScope s__law_word) := ⟨rfl, rfl, rfl, by decide +kernel, rfl, by decide +kernel, by decide +kernel⟩
theorem ok__law_word (T : Txt mg) (F : At K mg "_law_word" "_law_word" s__law_word) (D__law_draw : DefOk P w K mg base 2 "_law_draw" ["pen", "below"] sp_draw) : DefOk P w K mg base 3 "_law_word" ["pen", "signs", "most"] sp_word := by
  refine DefOk.of F sc__law_word (fun _ _ _ _ _ _ us hl => match us, hl with | [_, _, _], _ => rfl) (fun vs H Q E h => ?_) (fun f cdv A outer s H vs Q E hr h => ?_)
  · obtain ⟨p, l, b, z, m, rfl, _⟩ := h
    rfl
  · obtain ⟨p, l, b, z, m, rfl, hP, hb, z0, z1, m0, m1, k⟩ := h
    refine ⟨_, (pss_one (ps_ret (pe_joinN (K := K) pe_str (pe_lc (own := [("turn", 3)]) (g := gName 3) (tt := tYes) (by rfl) sc__law_word.nd (pi_range1 (by rfl) T.b_range (pa_cons (pe_callD D__law_draw (hr.mono (by decide)) passL (pa_cons (pv 0) (pa_cons (pe_op op_add (pv 2) pe_int) pa_nil))) pa_nil)) (blkOk_by (N := ["pen", "signs", "most", "turn"]) (sc := defScope s__law_word) (by decide +kernel))
    (fun _ _ _ _ _ => (pg_name (i := 3) sc__law_word.nd rfl (Or.inl rfl))) (fun _ _ _ _ _ => pts_nil) (fun _ _ _ _ _ => (pe_ix ix_str (pv 1) (pe_callD D__law_draw (hr.mono (by decide)) passL (pa_cons (pv 0) (pa_cons (pe_callB (cr_len (K := K)) (by rfl) T.b_len (by decide +kernel) (pa_cons (pv 1) pa_nil)) pa_nil))) (fun _ _ => rfl))))))), ?_⟩
    walk_at "w"
    refine ⟨p, l, b, m + 1, rfl, hP, by omega, by omega, by omega, fun H1 d k1 P1 d0 d1 => ?_⟩
    walk_at "w"
    refine w_exR1 d0 (by omega) ?_
    intro D hD
    refine lc_st walk_range (fun i acc H2 => Kp [p] H1 H2 ∧ PenAt (b + 1 + i) p l H2 ∧ ∀ v ∈ acc, ∃ c, v = .str ⟨#[c]⟩ ∧ c ∈ z.cps.toList) (by omega) ?_ ⟨kp_new (Same.refl _) hD, P1.keep (same_upd hD), fun _ h => nomatch h⟩ (fun _ _ _ _ => trivial) ?_ ?_
    · rintro i acc H2 H3 kd ⟨s1, P2, ha⟩
      refine ⟨kp_kp s1 hD kd, P2.kp (P1.ne_p hD) (P1.ne_l hD) kd, ha⟩
    · rintro i x acc H2 H3 Ky Kn hi hl ⟨s1, P2, ha⟩ eD ⟨rfl, rfl⟩ ky kn
      walk_at "w"
      refine w_lenS (line1000 z1) ?_
      walk_at "w"
      refine ⟨p, l, _, z.length, rfl, P2, by omega, by omega, by omega, fun H4 e k4 P4 e0 e1 => ?_⟩
      walk_at "w"
      obtain ⟨c, hc, hm, _⟩ := at_in (xs := z.cps.toList) e0 (by simpa [Str.length] using e1)
      refine w_ixS (line1000 z1) hc ?_
      walk_at "w"
      refine ky _ _ (kp_at k4 (by simpa using Ne.symm (P1.ne_p hD)) eD) ⟨s1.trans k4, P4, fun v hv => ?_⟩
      rcases List.mem_append.mp hv with hv | hv
      · exact ha v hv
      · obtain rfl := List.mem_singleton.mp hv
        exact ⟨_, rfl, hm⟩
    · rintro acc H2 hl e ⟨s1, P2, ha⟩
      walk_at "w"
      obtain ⟨ys, rfl, h1⟩ := list_str_of (acc := acc) fun v hv => by
        obtain ⟨c, rfl, _⟩ := ha v hv
        exact ⟨_, rfl, rfl⟩
      have hs := sum_ones h1
      rw [List.length_map] at hl
      refine w_join (.of e) (by rw [hs]; show _ + _ * 0 ≤ _; omega) ?_
      refine k _ _ (k1.trans s1) (P2.mono (by omega)) ?_ ?_
      · rw [len_join0, hs]
        omega
      · intro c hc
        have e : (Txt.join "" ys).cps.toList = (ys.map tl).flatten := tl_join0 ys
        rw [e, List.mem_flatten] at hc
        obtain ⟨q, hq, hc⟩ := hc
        obtain ⟨y, hy, rfl⟩ := List.mem_map.mp hq
        obtain ⟨d, e, hd⟩ := ha (.str y) (List.mem_map.mpr ⟨y, hy, rfl⟩)
        cases e
        have : c = d := by simpa [tl] using hc
        rw [this]; exact hd

/-- any object, less than n levels deep, made of new places -/
def sp_any (n : Nat) : Sp := fun vs H Q _ => ∃ (p l : Addr) (b : Nat) (lv : Int), vs = [.ref p, .int lv] ∧ 0 ≤ lv ∧ lv < n ∧ PenAt b p l H ∧ b + 4 ^ (n + 1) ≤ 1000000000000 ∧
  ∀ H' v, Kp [p] H H' → PenAt (b + 4 ^ (n + 1)) p l H' → AnyV (nw H H') v → (∀ x, v = .str x → x.length ≤ 100) → Q v H'
theorem any_flat {H : Hp} {d : Int} (d0 : 0 ≤ d) (d1 : d < 11) {v : V} (h : atI [V.int 0, V.int 1, V.int (-1), V.bl true, V.non, V.str "", V.str "0", V.str "a", V.str "aA", V.int (10 ^ (Int.toNat 39)), V.str "10"] d = some v) : AnyV H v ∧ ∀ x, v = .str x → x.length ≤ 100 := by
  have hd : d = 0 ∨ d = 1 ∨ d = 2 ∨ d = 3 ∨ d = 4 ∨ d = 5 ∨ d = 6 ∨ d = 7 ∨ d = 8 ∨ d = 9 ∨ d = 10 := by omega
  rcases hd with rfl | rfl | rfl | rfl | rfl | rfl | rfl | rfl | rfl | rfl | rfl
  · cases h; exact ⟨.int _, fun x e => by cases e⟩
  · cases h; exact ⟨.int _, fun x e => by cases e⟩
  · cases h; exact ⟨.int _, fun x e => by cases e⟩
  · cases h; exact ⟨.bl _, fun x e => by cases e⟩
  · cases h; exact ⟨.non, fun x e => by cases e⟩
  · cases h; exact ⟨.str _ ⟨by decide, by decide +kernel⟩, fun x e => by cases e; decide⟩
  · cases h; exact ⟨.str _ ⟨by decide, by decide +kernel⟩, fun x e => by cases e; decide⟩
  · cases h; exact ⟨.str _ ⟨by decide, by decide +kernel⟩, fun x e => by cases e; decide⟩
  · cases h; exact ⟨.str _ ⟨by decide, by decide +kernel⟩, fun x e => by cases e; decide⟩
  · cases h; exact ⟨.int _, fun x e => by cases e⟩
  · cases h; exact ⟨.str _ ⟨by decide, by decide +kernel⟩, fun x e => by cases e; decide⟩
theorem sc__law_any : FnScope ["pen", "levels", "road", "parts", "turn", "k"] ["pen", "levels"] (defScope s__law_any) := ⟨rfl, rfl, rfl, by decide +kernel, rfl, by decide +kernel, by decide +kernel⟩
theorem ok__law_any (T : Txt mg) (F : At K mg "_law_any" "_law_any" s__law_any) (D__law_draw : DefOk P w K mg base 2 "_law_draw" ["pen", "below"] sp_draw) : ∀ n : Nat, DefOk P w K mg base (3 + n) "_law_any" ["pen", "levels"] (sp_any n)
  | 0 => by
    refine DefOk.of (k := 2) F sc__law_any (fun _ _ _ _ _ _ us hl => match us, hl with | [_, _], _ => rfl) (fun vs H Q E h => ?_) (fun f cdv A outer s H vs Q E hr h => ?_)
    · obtain ⟨p, l, b, lv, rfl, _⟩ := h
      rfl
    · obtain ⟨p, l, b, lv, rfl, h0, h1, _⟩ := h
      exact absurd h1 (by omega)
  | n + 1 => by
    have D__law_any := ok__law_any T F D__law_draw n
    refine DefOk.of (k := 3 + n) F sc__law_any (fun _ _ _ _ _ _ us hl => match us, hl with | [_, _], _ => rfl) (fun vs H Q E h => ?_) (fun f cdv A outer s H vs Q E hr h => ?_)
    · obtain ⟨p, l, b, lv, rfl, _⟩ := h
      rfl
    · obtain ⟨p, l, b, lv, rfl, h0, h1, hP, hb, k⟩ := h
      have hr2 : Room 2 _ := hr.mono (by omega)
      refine ⟨_, (pss_cons (ps_set (i := 2) sc__law_any.nd rfl (Or.inl rfl) (pe_callD D__law_draw hr2 passL (pa_cons (pv 0) (pa_cons (pe_mid (pe_ifExp (pt_cmpR op_gt (pv 1) pe_int (nomark _)) pe_int pe_int)) pa_nil))))
    (pss_cons (ps_if (pt_cmpR op_lt (pv 2) pe_int (nomark _)) (pss_one (ps_ret (pe_ix (ixL (K := K)) (pe_lstN (pa_cons pe_int (pa_cons pe_int (pa_cons (pe_un un_neg pe_int) (pa_cons pe_bl (pa_cons pe_non (pa_cons pe_str (pa_cons pe_str (pa_cons pe_str (pa_cons pe_str (pa_cons (pe_op op_pow pe_int pe_int) (pa_cons pe_str pa_nil)))))))))))) (pv 2) (fun _ _ => rfl))))
      pss_nil)
    (pss_cons (ps_set (i := 3) sc__law_any.nd rfl (Or.inr rfl) (pe_lc (own := [("turn", 4)]) (g := gName 4) (tt := tYes) (by rfl) sc__law_any.nd (pi_range1 (by rfl) T.b_range (pa_cons (pe_callD D__law_draw hr2 passL (pa_cons (pv 0) (pa_cons pe_int pa_nil))) pa_nil)) (blkOk_by (N := ["pen", "levels", "road", "parts", "turn", "k"]) (sc := defScope s__law_any) (by decide +kernel))
    (fun _ _ _ _ _ => (pg_name (i := 4) sc__law_any.nd rfl (Or.inl rfl))) (fun _ _ _ _ _ => pts_nil) (fun _ _ _ _ _ => (pe_callD D__law_any hr passL (pa_cons (pv 0) (pa_cons (pe_op op_sub (pv 1) pe_int) pa_nil))))))
    (pss_cons (ps_if (pt_cmpR op_eq (pv 2) pe_int (nomark _)) (pss_one (ps_ret (pv 3)))
      pss_nil)
    (pss_cons (ps_if (pt_cmpR op_eq (pv 2) pe_int (nomark _)) (pss_one (ps_ret (pe_callTy (cr_dictP (K := K) rfl) (by rfl) T.b_dict (by decide +kernel) (pa_cons (pe_lc (own := [("k", 5)]) (g := gName 5) (tt := tYes) (by rfl) sc__law_any.nd (pi_range1 (by rfl) T.b_range (pa_cons (pe_callB (cr_len (K := K)) (by rfl) T.b_len (by decide +kernel) (pa_cons (pv 3) pa_nil)) pa_nil)) (blkOk_by (N := ["pen", "levels", "road", "parts", "turn", "k"]) (sc := defScope s__law_any) (by decide +kernel))
    (fun _ _ _ _ _ => (pg_name (i := 5) sc__law_any.nd rfl (Or.inl rfl))) (fun _ _ _ _ _ => pts_nil) (fun _ _ _ _ _ => (pe_tupN (pa_cons (pe_ix (ixL (K := K)) (pe_lstN (pa_cons pe_str (pa_cons pe_str (pa_cons pe_str (pa_cons pe_int pa_nil))))) (pv 5) (fun _ _ => rfl)) (pa_cons (pe_ix (ixL (K := K)) (pv 3) (pv 5) (fun _ _ => rfl)) pa_nil))))) pa_nil))))
      pss_nil)
    (pss_one (ps_ret (pe_callTy (cr_tupOf (K := K)) (by rfl) T.b_tuple (by decide +kernel) (pa_cons (pv 3) pa_nil))))))))), ?_⟩
      walk_at "w"
      refine w_mid (fun v H' => H' = H ∧ ∃ n' : Int, v = .int n' ∧ ((0 < lv ∧ n' = 15) ∨ (lv = 0 ∧ n' = 11))) ?_ ?_
      · walk_at "w"
        refine ifD (fun q => ?_) (fun q => ?_)
        · walk_at "w"
          exact ⟨rfl, _, rfl, .inl ⟨q, rfl⟩⟩
        · walk_at "w"
          exact ⟨rfl, _, rfl, .inr ⟨by omega, rfl⟩⟩
      rintro v H' ⟨rfl, n', rfl, hn⟩
      walk_at "w"
      have pw : 4 ≤ 4 ^ (n + 1) := by
        have : 4 ^ 1 ≤ 4 ^ (n + 1) := Nat.pow_le_pow_right (by decide) (by omega)
        simpa using this
      have pw2 : 4 ^ (n + 1 + 1) = 4 * 4 ^ (n + 1) := by rw [Nat.pow_succ]; omega
      refine ⟨p, l, b, n', rfl, hP, by omega, by omega, by omega, fun H1 d k1 P1 d0 d1 => ?_⟩
      walk_at "w"
      refine ifD (fun q => ?_) (fun q => ?_)
      · walk_at "w"
        refine fun a H2 ha s2 e2 => ?_
        walk_at "w"
        obtain ⟨v, hv, _⟩ := at_in (xs := [V.int 0, V.int 1, V.int (-1), V.bl true, V.non, V.str "", V.str "0", V.str "a", V.str "aA", V.int (10 ^ (Int.toNat 39)), V.str "10"]) d0 q
        refine w_ixL (.of e2) hv ?_
        exact k _ _ (k1.trans (same_wo s2 _)) ((P1.keep s2).mono (by omega)) (any_flat d0 q hv).1 (any_flat (H := H2) d0 q hv).2
      · have lp : 0 < lv ∧ n' = 15 := by omega
        walk_at "w"
        refine ⟨p, l, _, 4, rfl, P1, by omega, by omega, by omega, fun H2 t k2 P2 t0 t1 => ?_⟩
        walk_at "w"
        refine w_exR1 t0 (by omega) ?_
        intro D hD
        have k12 := k1.trans k2
        have hS : ∀ c ∈ [p], ∃ o, H' c = some o := fun c hc => by
          obtain rfl := List.mem_singleton.mp hc
          exact hP.some_p
        have dom2 : Dom H' H2 := Dom.of_kp k12 (fun c hc => by obtain rfl := List.mem_singleton.mp hc; exact P2.some_p)
        have nD : H' D = none := by
          cases e : H' D with
          | none => rfl
          | some o => obtain ⟨o', e'⟩ := dom2 D o e; rw [hD] at e'; cases e'
        refine lc_st walk_range (fun i acc H3 => Kp [p] H2 H3 ∧ PenAt (b + 2 + 4 ^ (n + 1) * i) p l H3 ∧ ∀ v ∈ acc, AnyV (nw (upd H2 D (.lst [])) H3) v) (by omega) ?_ ⟨kp_new (Same.refl _) hD, P2.keep (same_upd hD), fun _ h => nomatch h⟩ (fun _ _ _ _ => trivial) ?_ ?_
        · rintro i acc H3 H4 kd ⟨s1, P3, ha⟩
          refine ⟨kp_kp s1 hD kd, P3.kp (P2.ne_p hD) (P2.ne_l hD) kd, fun v hv => (ha v hv).keep (nw_kp (fun c hc => ?_) kd)⟩
          obtain rfl := List.mem_singleton.mp hc
          exact ⟨_, upd_same⟩
        · rintro i x acc H3 H4 Ky Kn hi hl ⟨s1, P3, ha⟩ eD ⟨rfl, rfl⟩ ky kn
          walk_at "w"
          have pwi : 4 ^ (n + 1) * i + 4 ^ (n + 1) ≤ 4 ^ (n + 1) * 3 := by
            have : i + 1 ≤ 3 := by omega
            calc 4 ^ (n + 1) * i + 4 ^ (n + 1) = 4 ^ (n + 1) * (i + 1) := by rw [Nat.mul_succ]
              _ ≤ 4 ^ (n + 1) * 3 := Nat.mul_le_mul_left _ this
          refine ⟨p, l, _, lv - 1, rfl, by omega, by omega, P3, by omega, fun H5 v k5 P5 a5 _ => ?_⟩
          refine ky _ _ (kp_at k5 (by simpa using Ne.symm (P2.ne_p hD)) eD) ⟨s1.trans k5, P5.mono (by rw [Nat.mul_succ]; omega), fun u hu => ?_⟩
          have dm : Dom (upd H2 D (.lst [])) H4 := fun c o e => by
            by_cases q : c = D
            · rw [q]; exact ⟨_, eD⟩
            · rw [upd_ne q] at e
              exact Dom.of_kp s1 (fun c hc => by obtain rfl := List.mem_singleton.mp hc; exact P3.some_p) c o e
          rcases List.mem_append.mp hu with hu | hu
          · refine (ha u hu).keep (nw_kp (fun c hc => ?_) k5)
            obtain rfl := List.mem_singleton.mp hc
            obtain ⟨o, e⟩ := P2.some_p
            exact ⟨o, same_upd hD _ _ e⟩
          · obtain rfl := List.mem_singleton.mp hu
            exact a5.keep (nw_dom dm)
        · rintro acc H3 hl e ⟨s1, P3, ha⟩
          have k13 := k12.trans s1
          have P4 : PenAt (b + 4 ^ (n + 1 + 1)) p l H3 := P3.mono (by
            have : 4 ^ (n + 1) * t.toNat ≤ 4 ^ (n + 1) * 3 := Nat.mul_le_mul_left _ (by omega)
            omega)
          have ha' : ∀ v ∈ acc, AnyV (nw H' H3) v := fun v hv => (ha v hv).keep (nw_dom (dom2.trans (Dom.of_same (same_upd hD))))
          have hlen : acc.length ≤ 3 := by omega
          walk_at "w"
          refine ifD (fun q1 => ?_) (fun q1 => ?_)
          · walk_at "w"
            exact k _ _ k13 P4 (.lst (nw_at nD e) ha') (fun x e => nomatch e)
          · walk_at "w"
            refine ifD (fun q2 => ?_) (fun q2 => ?_)
            · walk_at "w"
              refine w_lenL (.of e) ?_
              walk_at "w"
              refine w_exR1 (by omega) (by omega) ?_
              intro D2 hD2
              refine lc_rel walk_range (fun i v H => ∃ T x, v = .ref T ∧ H T = some (.tup [kV (([.inr "a", .inr "b", .inr "c", .inl 0] : List Key).getD i (.inl 0)), x]) ∧ acc[i]? = some x) ?_ (by omega) hD2 (fun _ _ => trivial)
                (fun _ _ _ _ y => by obtain ⟨z, _⟩ := y; rw [z]; exact Same.refl _) ?_ ?_
              · rintro i v H5 H6 s ⟨T, x, r, h, q⟩
                exact ⟨T, x, r, s _ _ h, q⟩
              · rintro i x H5 H6 Ky hi s5 ⟨oD, eD⟩ ⟨rfl, rfl⟩ ky
                walk_at "w"
                refine fun a H7 ha7 s7 e7 => ?_
                walk_at "w"
                have hi3 : i < 3 := by omega
                obtain ⟨u, hu, _, hu2⟩ := at_in (xs := [V.str "a", V.str "b", V.str "c", V.int 0]) (i := 0 + (i : Int)) (by omega) (by simp; omega)
                have eu : u = kV (([.inr "a", .inr "b", .inr "c", .inl 0] : List Key).getD i (.inl 0)) := by
                  have z : (0 + (i : Int)).toNat = i := by omega
                  rw [z] at hu2
                  have : i = 0 ∨ i = 1 ∨ i = 2 := by omega
                  rcases this with rfl | rfl | rfl <;> (cases hu2; rfl)
                refine w_ixL (.of e7) hu ?_
                walk_at "w"
                obtain ⟨x, hx, _, hx2⟩ := at_in (xs := acc) (i := 0 + (i : Int)) (by omega) (by omega)
                refine w_ixL (.of (s7 _ _ (s5 _ _ e))) hx ?_
                walk_at "w"
                refine fun T H8 hT s8 e8 => ?_
                have zi : (0 + (i : Int)).toNat = i := by omega
                rw [zi] at hx2
                refine ky _ _ (s7.trans s8) ⟨T, x, rfl, wo_of ?_ (by rw [e8, eu]), hx2⟩
                simpa using (ne_of_none (s7 _ _ eD) hT).symm
              · rintro ys H5 hl5 hR s5 e5
                walk_at "w"
                have hl6 : ys.length = acc.length := by simpa using hl5
                obtain ⟨ey, hp⟩ := pairs_ok (K := K) (H := H5) (ys := ys) (kvs := acc.mapIdx fun i x => (([.inr "a", .inr "b", .inr "c", .inl 0] : List Key).getD i (.inl 0), x)) (by rw [List.length_mapIdx]; exact hl6) (fun i v kv h1 h2 => by
                  obtain ⟨T, x, rfl, eT, ex⟩ := hR i v h1
                  rw [List.getElem?_mapIdx, ex] at h2
                  have h2' := Option.some.inj h2
                  subst h2'
                  exact ⟨T, rfl, eT⟩)
                rw [ey] at e5
                refine w_dictP _ (.of e5) hp (fun a H6 hA s6 e6 => ?_)
                have nA : H' a = none := by
                  cases z : H' a with
                  | none => rfl
                  | some o =>
                    obtain ⟨o', e'⟩ := Dom.of_kp k13 (fun c hc => by obtain rfl := List.mem_singleton.mp hc; exact P3.some_p) a o z
                    rw [s5 _ _ e'] at hA; cases hA
                have all : ∀ kv ∈ mergeK [] (acc.mapIdx fun i x => (([.inr "a", .inr "b", .inr "c", .inl 0] : List Key).getD i (.inl 0), x)), okK kv.1 ∧ AnyV (nw H' H6) kv.2 :=
                  all_mergeK (Pr := fun k v => okK k ∧ AnyV (nw H' H6) v) (fun kv hm => by
                    obtain ⟨i, hi, rfl⟩ := List.mem_mapIdx.mp hm
                    refine ⟨?_, (ha' _ (List.getElem_mem hi)).keep (nw_mono (s5.trans s6))⟩
                    have : i = 0 ∨ i = 1 ∨ i = 2 := by omega
                    rcases this with rfl | rfl | rfl
                    · exact ⟨by decide, by decide +kernel⟩
                    · exact ⟨by decide, by decide +kernel⟩
                    · exact ⟨by decide, by decide +kernel⟩) (fun kv hm => nomatch hm)
                exact k _ _ (k13.trans (same_wo (s5.trans s6) _)) (P4.keep (s5.trans s6)) (.dK (nw_at nA e6) (fun kv hm => (all kv hm).1) (fun kv hm => (all kv hm).2)) (fun x e => nomatch e)
            · walk_at "w"
              refine w_tupOfL (.of e) (fun a H4 hA s4 e4 => ?_)
              have nA : H' a = none := by
                cases z : H' a with
                | none => rfl
                | some o =>
                  obtain ⟨o', e'⟩ := Dom.of_kp k13 (fun c hc => by obtain rfl := List.mem_singleton.mp hc; exact P3.some_p) a o z
                  rw [hA] at e'; cases e'
              exact k _ _ (k13.trans (same_wo s4 _)) (P4.keep s4) (.tup (nw_at nA e4) fun v hv => (ha' v hv).keep (nw_mono s4)) (fun x e => nomatch e)

def sp_law (K : PySem.W.Frag) : Sp := fun vs H Q _ => ∃ (a : Addr) (ns : List Int), vs = [.ref a] ∧ SqL K H a (ns.map V.int) ∧ ns.length ≤ 63 ∧ ∀ H', Q (.bl true) H'
theorem sc_law : FnScope ["script", "pen", "turn", "radix", "depth", "road", "thing", "spot", "signs"] ["script"] (defScope s_law) := ⟨rfl, rfl, rfl, by decide +kernel, rfl, by decide +kernel, by decide +kernel⟩
theorem ok_law (T : Txt mg) (F : At K mg "law" "law" s_law) (D__law_pen : DefOk P w K mg base 1 "_law_pen" ["script"] (sp_pen K)) (D__law_draw : DefOk P w K mg base 2 "_law_draw" ["pen", "below"] sp_draw) (D__law_any : DefOk P w K mg base 6 "_law_any" ["pen", "levels"] (sp_any 3)) (D__law_word : DefOk P w K mg base 3 "_law_word" ["pen", "signs", "most"] sp_word) (D__law_same_truth : DefOk P w K mg base 1 "_law_same_truth" ["result", "expected"] sp_same_truth) (D_is_name : DefOk P w K mg base 1 "is_name" ["thing"] sp_is_name) (D__law_is_name : DefOk P w K mg base 1 "_law_is_name" ["thing"] sp_is_name) (D_is_codeword : DefOk P w K mg base 1 "is_codeword" ["radix", "depth", "thing"] sp_is_codeword) (D__law_is_codeword : DefOk P w K mg base 1 "_law_is_codeword" ["radix", "depth", "thing"] sp_is_codeword) : DefOk P w K mg base 7 "law" ["script"] (sp_law K) := by
  refine DefOk.of F sc_law (fun _ _ _ _ _ _ us hl => match us, hl with | [_], _ => rfl) (fun vs H Q E h => ?_) (fun f cdv A outer s H vs Q E hr h => ?_)
  · obtain ⟨a, ns, rfl, _⟩ := h
    rfl
  · obtain ⟨a, ns, rfl, ha, hl, k⟩ := h
    refine ⟨_, (pss_cons (ps_set (i := 1) sc_law.nd rfl (Or.inl rfl) (pe_callD D__law_pen (hr.mono (by decide)) passL (pa_cons (pv 0) pa_nil)))
    (pss_cons (ps_for (passes_of rfl) rfl (pi_range1 (by rfl) T.b_range (pa_cons pe_int pa_nil)) (pg_name (i := 2) sc_law.nd rfl (Or.inl rfl))
      (pss_cons (ps_par (i := 3) (j := 4) (by rfl) sc_law.nd rfl rfl (by decide) rfl rfl (pa_cons (pe_op op_add pe_int (pe_callD D__law_draw (hr.mono (by decide)) passL (pa_cons (pv 1) (pa_cons pe_int pa_nil)))) (pa_cons (pe_op op_add pe_int (pe_callD D__law_draw (hr.mono (by decide)) passL (pa_cons (pv 1) (pa_cons pe_int pa_nil)))) pa_nil)) (by rfl))
      (pss_cons (ps_set (i := 5) sc_law.nd rfl (Or.inl rfl) (pe_callD D__law_draw (hr.mono (by decide)) passL (pa_cons (pv 1) (pa_cons pe_int pa_nil))))
      (pss_cons (ps_set (i := 6) sc_law.nd rfl (Or.inl rfl) (pe_callD D__law_any (hr.mono (by decide)) passL (pa_cons (pv 1) (pa_cons pe_int pa_nil))))
      (pss_cut (ps_if (pt_cmpR op_eq (pv 5) pe_int (nomark _)) (pss_one (ps_set (i := 6) sc_law.nd rfl (Or.inl rfl) (pe_callD D__law_word (hr.mono (by decide)) passL (pa_cons (pv 1) (pa_cons pe_str (pa_cons pe_int pa_nil))))))
        pss_nil)
      (pss_cut (ps_if (pt_cmpR op_gt (pv 5) pe_int (nomark _)) (pss_one (ps_set (i := 6) sc_law.nd rfl (Or.inl rfl) (pe_callD D__law_word (hr.mono (by decide)) passL (pa_cons (pv 1) (pa_cons (pe_slice sl_str pe_str po_none (po_some (pv 3))) (pa_cons pe_int pa_nil))))))
        pss_nil)
      (pss_cut (ps_if (PW.pt (pw_and (pt_val (pe_callB (cr_isi (K := K)) (by rfl) T.b_isinstance (by decide +kernel) (pa_cons (pv 6) (pa_cons (pe_ty "str" T.b_str (by decide +kernel)) pa_nil)))) (pw_and1 (pt_cmpR op_eq (pe_callD D__law_draw (hr.mono (by decide)) passL (pa_cons (pv 1) (pa_cons pe_int pa_nil))) pe_int (nomark _))))) (pss_cons (ps_set (i := 7) sc_law.nd rfl (Or.inl rfl) (pe_callD D__law_draw (hr.mono (by decide)) passL (pa_cons (pv 1) (pa_cons (pe_op op_add (pe_callB (cr_len (K := K)) (by rfl) T.b_len (by decide +kernel) (pa_cons (pv 6) pa_nil)) pe_int) pa_nil))))
        (pss_cons (ps_set (i := 8) sc_law.nd rfl (Or.inl rfl) pe_str)
        (pss_one (ps_set (i := 6) sc_law.nd rfl (Or.inl rfl) (pe_op op_addS (pe_op op_addS (pe_slice sl_str (pv 6) po_none (po_some (pv 7))) (pe_ix ix_str (pv 8) (pe_callD D__law_draw (hr.mono (by decide)) passL (pa_cons (pv 1) (pa_cons (pe_callB (cr_len (K := K)) (by rfl) T.b_len (by decide +kernel) (pa_cons (pv 8) pa_nil)) pa_nil))) (fun _ _ => rfl))) (pe_slice sl_str (pv 6) (po_some (pv 7)) po_none))))))
        pss_nil)
      (pss_cons (ps_if (pt_not (pt_val (pe_callD D__law_same_truth (hr.mono (by decide)) passL (pa_cons (pe_callD D_is_name (hr.mono (by decide)) passL (pa_cons (pv 6) pa_nil)) (pa_cons (pe_callD D__law_is_name (hr.mono (by decide)) passL (pa_cons (pv 6) pa_nil)) pa_nil))))) (pss_one (ps_ret pe_bl))
        pss_nil)
      (pss_one (ps_if (pt_not (pt_val (pe_callD D__law_same_truth (hr.mono (by decide)) passL (pa_cons (pe_callD D_is_codeword (hr.mono (by decide)) passL (pa_cons (pv 3) (pa_cons (pv 4) (pa_cons (pv 6) pa_nil)))) (pa_cons (pe_callD D__law_is_codeword (hr.mono (by decide)) passL (pa_cons (pv 3) (pa_cons (pv 4) (pa_cons (pv 6) pa_nil)))) pa_nil))))) (pss_one (ps_ret pe_bl))
        pss_nil))))))))))
    (pss_one (ps_ret pe_bl)))), ?_⟩
    walk_at "w"
    refine ⟨a, ns, rfl, ha, hl, fun H1 p l s1 hp hl1 P1 => ?_⟩
    walk_at "w"
    refine w_exR1 (by decide) (by decide) ?_
    refine for_it walk_range (fun i σ H2 => ∃ t r d o v x y, σ = [some (.ref a), some (.ref p), t, r, d, o, v, x, y] ∧ PenAt (10000 * i) p l H2) ⟨_, _, _, _, _, _, _, rfl, P1⟩ (fun _ _ _ _ _ => trivial) ?_ ?_
    · rintro i x σ H2 H3 hi ⟨t, r, d, o, v, x, y, rfl, P2⟩ ⟨rfl, rfl⟩
      have hi' : i < 10 := hi
      walk_at "w"
      refine ⟨p, l, _, 3, rfl, P2, by omega, by omega, by omega, fun H4 r k4 P4 r0 r1 => ?_⟩
      walk_at "w"
      refine ⟨p, l, _, 6, rfl, P4, by omega, by omega, by omega, fun H5 h k5 P5 h0 h1 => ?_⟩
      walk_at "w"
      refine ⟨p, l, _, 4, rfl, P5, by omega, by omega, by omega, fun H6 o k6 P6 o0 o1 => ?_⟩
      walk_at "w"
      refine ⟨p, l, _, 2, rfl, by decide, by decide, P6, by omega, fun H7 v k7 P7 a7 sh7 => ?_⟩
      walk_at "w"
      have nS : ∀ c ∈ [p], ∃ o, H6 c = some o := fun c hc => by obtain rfl := List.mem_singleton.mp hc; exact P6.some_p
      -- thing: a new object, or a short text
      refine w_cut (fun σ' H' => ∃ v, AnyV (nw H6 H') v ∧ (∀ x, v = .str x → x.length ≤ 100) ∧ PenAt (10000 * i + 3 + 4 ^ (3 + 1) + 200) p l H' ∧ σ' = [some (.ref a), some (.ref p), some (.int (0 + (i : Int))), some (.int (2 + r)), some (.int (1 + h)), some (.int o), some v, x, y]) ?_ ?_
      · walk_at "w"
        refine ifD (fun q => ?_) (fun q => ?_)
        · walk_at "w"
          refine ⟨p, l, _, _, 10, rfl, P7, by omega, by decide, by decide, by decide, by decide, fun H8 z k8 P8 hz hc => ?_⟩
          walk_at "w"
          exact ⟨_, .str _ ⟨by omega, strOk_iff.mpr fun c q => strOk_iff.mp (by decide +kernel) c (hc c q)⟩, fun x e => by cases e; omega, P8.mono (by omega), rfl⟩
        · walk_at "w"
          exact ⟨v, a7, sh7, P7.mono (by omega), rfl⟩
      rintro σ H8 ⟨v, a8, sh8, P8, rfl⟩
      refine w_cut (fun σ' H' => ∃ v, AnyV (nw H6 H') v ∧ (∀ x, v = .str x → x.length ≤ 100) ∧ PenAt (10000 * i + 3 + 4 ^ (3 + 1) + 400) p l H' ∧ σ' = [some (.ref a), some (.ref p), some (.int (0 + (i : Int))), some (.int (2 + r)), some (.int (1 + h)), some (.int o), some v, x, y]) ?_ ?_
      · walk_at "w"
        refine ifD (fun q => ?_) (fun q => ?_)
        · walk_at "w"
          refine w_slS (by decide) ?_
          walk_at "w"
          have hcut : ∀ r' : Int, 2 ≤ r' → r' ≤ 4 → 0 < (cutS "0123" none (some r')).length ∧ (cutS "0123" none (some r')).length ≤ 1000 ∧ okS (cutS "0123" none (some r')) := by
            intro r' h2 h4
            have : r' = 2 ∨ r' = 3 ∨ r' = 4 := by omega
            rcases this with rfl | rfl | rfl <;> exact ⟨by decide, by decide, by decide, by decide +kernel⟩
          obtain ⟨z0, z1, z2⟩ := hcut (2 + r) (by omega) (by omega)
          refine ⟨p, l, _, _, 8, rfl, P8, by omega, z0, z1, by decide, by decide, fun H9 z k9 P9 hz hc => ?_⟩
          walk_at "w"
          exact ⟨_, .str _ ⟨by omega, strOk_iff.mpr fun c q => strOk_iff.mp z2.2 c (hc c q)⟩, fun x e => by cases e; omega, P9.mono (by omega), rfl⟩
        · walk_at "w"
          exact ⟨v, a8, sh8, P8.mono (by omega), rfl⟩
      rintro σ H9 ⟨v, a9, sh9, P9, rfl⟩
      refine w_cut (fun σ' H' => ∃ v x y, AnyV (nw H6 H') v ∧ PenAt (10000 * i + 3 + 4 ^ (3 + 1) + 500) p l H' ∧ σ' = [some (.ref a), some (.ref p), some (.int (0 + (i : Int))), some (.int (2 + r)), some (.int (1 + h)), some (.int o), some v, x, y]) ?_ ?_
      · walk_at "w"
        refine isi_str (a9.keep (nw_same _ _)) ?_
        walk_at "w"
        refine ifB (fun q => ?_) (fun q => ?_)
        · obtain ⟨z, rfl⟩ := isS_iff.mp q
          have hz := a9.okS
          have hz1 := sh9 z rfl
          walk_at "w"
          refine ⟨p, l, _, 3, rfl, P9, by omega, by decide, by decide, fun H10 d10 k10 P10 _ _ => ?_⟩
          walk_at "w"
          refine ifD (fun q1 => ?_) (fun q1 => ?_)
          · walk_at "w"
            refine w_lenS (line1000 hz.1) ?_
            walk_at "w"
            refine ⟨p, l, _, _, rfl, P10, by omega, by omega, by omega, fun H11 sp k11 P11 sp0 sp1 => ?_⟩
            walk_at "w"
            refine w_slS (line1000 hz.1) ?_
            walk_at "w"
            refine w_lenS (by decide) ?_
            walk_at "w"
            refine ⟨p, l, _, _, rfl, P11, by omega, by decide, by decide, fun H12 d12 k12 P12 e0 e1 => ?_⟩
            walk_at "w"
            obtain ⟨c, hc, hm, _⟩ := at_in (xs := (Str.ofString "Aa{0234 -\n\t@Z[^_`|}~/:!z9").cps.toList) e0 (by simpa [Str.length] using e1)
            refine w_ixS (by decide) hc ?_
            have l1 := cutS_le z none (some sp)
            have l2 := cutS_le z (some sp) none
            have lc : (⟨#[c]⟩ : Str).length = 1 := rfl
            have big : ∀ n : Nat, n ≤ 1000 → n ≤ sizeLine := fun n h => line1000 h
            refine w_addS (big _ (by omega)) ?_
            walk_at "w"
            refine w_slS (line1000 hz.1) ?_
            refine w_addS (big _ (by rw [len_app]; omega)) ?_
            walk_at "w"
            refine ⟨_, _, _, .str _ (okS_app (okS_app (okS_cut hz _ _) (okS_sign ⟨by decide, by decide +kernel⟩ hm) (by omega)) (okS_cut hz _ _) (by rw [len_app]; omega)), P12.mono (by omega), rfl⟩
          · walk_at "w"
            exact ⟨_, _, _, .str _ hz, P10.mono (by omega), rfl⟩
        · walk_at "w"
          exact ⟨_, _, _, a9, P9.mono (by omega), rfl⟩
      rintro σ H10 ⟨v, x, y, a10, P10, rfl⟩
      have av : AnyV H10 v := a10.keep (nw_same _ _)
      walk_at "w"
      refine ⟨v, rfl, av, fun H11 s11 => ?_⟩
      walk_at "w"
      refine ⟨v, rfl, av.keep s11, fun H12 s12 => ?_⟩
      walk_at "w"
      refine ⟨_, _, rfl, fun H13 s13 => ?_⟩
      walk_at "w"
      rw [decide_eq_true rfl]
      walk_at "w"
      have s11_13 := s11.trans (s12.trans s13)
      refine ⟨_, _, v, rfl, by omega, by omega, av.keep s11_13, fun H14 s14 => ?_⟩
      walk_at "w"
      refine ⟨_, _, v, rfl, by omega, by omega, (av.keep s11_13).keep s14, fun H15 s15 => ?_⟩
      walk_at "w"
      refine ⟨_, _, rfl, fun H16 s16 => ?_⟩
      walk_at "w"
      rw [decide_eq_true rfl]
      walk_at "w"
      exact ⟨_, _, _, _, _, _, _, rfl, (P10.keep (s11_13.trans (s14.trans (s15.trans s16)))).mono (by omega)⟩
    · rintro σ H2 ⟨t, r, d, o, v, x, y, rfl, P2⟩
      walk_at "w"
      exact k _
end

theorem all_mk {l : PySem.W.OpenLaw} {w : World} {K : PySem.W.Frag} {h : Heap} {mg : Str → Option Value} {fa : Addr} (X : K.In h) (G : h.Ns mainGlobals mg) (hfa : mg "law" = some (.ref fa))
    {f0 : Addr} {od0 an0 : Option Addr} {sl0 : Array (Option Value)} {oc0 kV0 dc0 pm0 cd0 ct0 : Value}
    (a0 : PySem.W.nsIn K mainGlobals "_law_pen" = some (some (.ref f0))) (l0 : K.lookup f0 = some ⟨oc0, od0, .func (PySem.W.fnOf "_law_pen" "_law_pen" (defArgs s__law_pen) (defBody s__law_pen) (defScope s__law_pen) .none kV0 dc0 pm0 an0 cd0 ct0), sl0⟩) (c0 : PySem.W.codeIn K cd0 "_law_pen" = true) (k0 : PySem.W.keepIn K (.ref f0) = true)
    {f1 : Addr} {od1 an1 : Option Addr} {sl1 : Array (Option Value)} {oc1 kV1 dc1 pm1 cd1 ct1 : Value}
    (a1 : PySem.W.nsIn K mainGlobals "_law_next" = some (some (.ref f1))) (l1 : K.lookup f1 = some ⟨oc1, od1, .func (PySem.W.fnOf "_law_next" "_law_next" (defArgs s__law_next) (defBody s__law_next) (defScope s__law_next) .none kV1 dc1 pm1 an1 cd1 ct1), sl1⟩) (c1 : PySem.W.codeIn K cd1 "_law_next" = true) (k1 : PySem.W.keepIn K (.ref f1) = true)
    {f2 : Addr} {od2 an2 : Option Addr} {sl2 : Array (Option Value)} {oc2 kV2 dc2 pm2 cd2 ct2 : Value}
    (a2 : PySem.W.nsIn K mainGlobals "_law_draw" = some (some (.ref f2))) (l2 : K.lookup f2 = some ⟨oc2, od2, .func (PySem.W.fnOf "_law_draw" "_law_draw" (defArgs s__law_draw) (defBody s__law_draw) (defScope s__law_draw) .none kV2 dc2 pm2 an2 cd2 ct2), sl2⟩) (c2 : PySem.W.codeIn K cd2 "_law_draw" = true) (k2 : PySem.W.keepIn K (.ref f2) = true)
    {f3 : Addr} {od3 an3 : Option Addr} {sl3 : Array (Option Value)} {oc3 kV3 dc3 pm3 cd3 ct3 : Value}
    (a3 : PySem.W.nsIn K mainGlobals "_law_any" = some (some (.ref f3))) (l3 : K.lookup f3 = some ⟨oc3, od3, .func (PySem.W.fnOf "_law_any" "_law_any" (defArgs s__law_any) (defBody s__law_any) (defScope s__law_any) .none kV3 dc3 pm3 an3 cd3 ct3), sl3⟩) (c3 : PySem.W.codeIn K cd3 "_law_any" = true) (k3 : PySem.W.keepIn K (.ref f3) = true)
    {f4 : Addr} {od4 an4 : Option Addr} {sl4 : Array (Option Value)} {oc4 kV4 dc4 pm4 cd4 ct4 : Value}
    (a4 : PySem.W.nsIn K mainGlobals "_law_word" = some (some (.ref f4))) (l4 : K.lookup f4 = some ⟨oc4, od4, .func (PySem.W.fnOf "_law_word" "_law_word" (defArgs s__law_word) (defBody s__law_word) (defScope s__law_word) .none kV4 dc4 pm4 an4 cd4 ct4), sl4⟩) (c4 : PySem.W.codeIn K cd4 "_law_word" = true) (k4 : PySem.W.keepIn K (.ref f4) = true)
    {f5 : Addr} {od5 an5 : Option Addr} {sl5 : Array (Option Value)} {oc5 kV5 dc5 pm5 cd5 ct5 : Value}
    (a5 : PySem.W.nsIn K mainGlobals "_law_same_truth" = some (some (.ref f5))) (l5 : K.lookup f5 = some ⟨oc5, od5, .func (PySem.W.fnOf "_law_same_truth" "_law_same_truth" (defArgs s__law_same_truth) (defBody s__law_same_truth) (defScope s__law_same_truth) .none kV5 dc5 pm5 an5 cd5 ct5), sl5⟩) (c5 : PySem.W.codeIn K cd5 "_law_same_truth" = true) (k5 : PySem.W.keepIn K (.ref f5) = true)
    {f6 : Addr} {od6 an6 : Option Addr} {sl6 : Array (Option Value)} {oc6 kV6 dc6 pm6 cd6 ct6 : Value}
    (a6 : PySem.W.nsIn K mainGlobals "is_name" = some (some (.ref f6))) (l6 : K.lookup f6 = some ⟨oc6, od6, .func (PySem.W.fnOf "is_name" "is_name" (defArgs s_is_name) (defBody s_is_name) (defScope s_is_name) .none kV6 dc6 pm6 an6 cd6 ct6), sl6⟩) (c6 : PySem.W.codeIn K cd6 "is_name" = true) (k6 : PySem.W.keepIn K (.ref f6) = true)
    {f7 : Addr} {od7 an7 : Option Addr} {sl7 : Array (Option Value)} {oc7 kV7 dc7 pm7 cd7 ct7 : Value}
    (a7 : PySem.W.nsIn K mainGlobals "_law_is_name" = some (some (.ref f7))) (l7 : K.lookup f7 = some ⟨oc7, od7, .func (PySem.W.fnOf "_law_is_name" "_law_is_name" (defArgs s__law_is_name) (defBody s__law_is_name) (defScope s__law_is_name) .none kV7 dc7 pm7 an7 cd7 ct7), sl7⟩) (c7 : PySem.W.codeIn K cd7 "_law_is_name" = true) (k7 : PySem.W.keepIn K (.ref f7) = true)
    {f8 : Addr} {od8 an8 : Option Addr} {sl8 : Array (Option Value)} {oc8 kV8 dc8 pm8 cd8 ct8 : Value}
    (a8 : PySem.W.nsIn K mainGlobals "is_codeword" = some (some (.ref f8))) (l8 : K.lookup f8 = some ⟨oc8, od8, .func (PySem.W.fnOf "is_codeword" "is_codeword" (defArgs s_is_codeword) (defBody s_is_codeword) (defScope s_is_codeword) .none kV8 dc8 pm8 an8 cd8 ct8), sl8⟩) (c8 : PySem.W.codeIn K cd8 "is_codeword" = true) (k8 : PySem.W.keepIn K (.ref f8) = true)
    {f9 : Addr} {od9 an9 : Option Addr} {sl9 : Array (Option Value)} {oc9 kV9 dc9 pm9 cd9 ct9 : Value}
    (a9 : PySem.W.nsIn K mainGlobals "_law_is_codeword" = some (some (.ref f9))) (l9 : K.lookup f9 = some ⟨oc9, od9, .func (PySem.W.fnOf "_law_is_codeword" "_law_is_codeword" (defArgs s__law_is_codeword) (defBody s__law_is_codeword) (defScope s__law_is_codeword) .none kV9 dc9 pm9 an9 cd9 ct9), sl9⟩) (c9 : PySem.W.codeIn K cd9 "_law_is_codeword" = true) (k9 : PySem.W.keepIn K (.ref f9) = true)
    {f10 : Addr} {od10 an10 : Option Addr} {sl10 : Array (Option Value)} {oc10 kV10 dc10 pm10 cd10 ct10 : Value}
    (a10 : PySem.W.nsIn K mainGlobals "law" = some (some (.ref f10))) (l10 : K.lookup f10 = some ⟨oc10, od10, .func (PySem.W.fnOf "law" "law" (defArgs s_law) (defBody s_law) (defScope s_law) .none kV10 dc10 pm10 an10 cd10 ct10), sl10⟩) (c10 : PySem.W.codeIn K cd10 "law" = true) (k10 : PySem.W.keepIn K (.ref f10) = true)
    (z_len : PySem.W.nsIn K mainGlobals "len" = some none)
    (z_isinstance : PySem.W.nsIn K mainGlobals "isinstance" = some none)
    (z_all : PySem.W.nsIn K mainGlobals "all" = some none)
    (z_str : PySem.W.nsIn K mainGlobals "str" = some none)
    (z_bool : PySem.W.nsIn K mainGlobals "bool" = some none)
    (z_list : PySem.W.nsIn K mainGlobals "list" = some none)
    (z_tuple : PySem.W.nsIn K mainGlobals "tuple" = some none)
    (z_dict : PySem.W.nsIn K mainGlobals "dict" = some none)
    (z_range : PySem.W.nsIn K mainGlobals "range" = some none)
    {t_gLETTERS : Tok} (y_gLETTERS : PySem.W.nsIn K mainGlobals "LETTERS" = some (some (.str "abcdefghijklmnopqrstuvwxyz" t_gLETTERS)))
    {t_gDIGITS : Tok} (y_gDIGITS : PySem.W.nsIn K mainGlobals "DIGITS" = some (some (.str "0123" t_gDIGITS)))
    {t_gMAX_NAME : Tok} (y_gMAX_NAME : PySem.W.nsIn K mainGlobals "MAX_NAME" = some (some (.int 8 t_gMAX_NAME)))
    : ∃ fd : FuncData, (∀ (s : Shared) (v : Value), BindsTo s fd ⟨[v], []⟩ [("script", v)]) ∧ ∀ base : Heap, K.In base → base.Ns mainGlobals mg → FnOk l.prog w K mg base (L2.CX l.prog w) 7 fa fd ["script"] (sp_law K) := by
  have e := hfa.symm.trans (PySem.W.mg_of X G a10)
  cases e
  have T : Txt mg := { b_len := PySem.W.mg_none_of X G z_len, b_isinstance := PySem.W.mg_none_of X G z_isinstance, b_all := PySem.W.mg_none_of X G z_all, b_str := PySem.W.mg_none_of X G z_str, b_bool := PySem.W.mg_none_of X G z_bool, b_list := PySem.W.mg_none_of X G z_list, b_tuple := PySem.W.mg_none_of X G z_tuple, b_dict := PySem.W.mg_none_of X G z_dict, b_range := PySem.W.mg_none_of X G z_range, gLETTERS := ⟨_, PySem.W.mg_of X G y_gLETTERS⟩, gDIGITS := ⟨_, PySem.W.mg_of X G y_gDIGITS⟩, gMAX_NAME := ⟨_, PySem.W.mg_of X G y_gMAX_NAME⟩ }
  refine ⟨_, fun s v => .of_eq rfl, fun base _ _ => DefOk.at ?_ hfa l10⟩
  have D__law_pen : DefOk l.prog w K mg base 1 "_law_pen" ["script"] (sp_pen K) := ok__law_pen T (at_mk X G a0 l0 c0 k0)
  have D__law_next : DefOk l.prog w K mg base 1 "_law_next" ["pen"] sp_next := ok__law_next T (at_mk X G a1 l1 c1 k1)
  have D__law_draw : DefOk l.prog w K mg base 2 "_law_draw" ["pen", "below"] sp_draw := ok__law_draw T (at_mk X G a2 l2 c2 k2) D__law_next
  have D__law_any : DefOk l.prog w K mg base 6 "_law_any" ["pen", "levels"] (sp_any 3) := ok__law_any T (at_mk X G a3 l3 c3 k3) D__law_draw 3
  have D__law_word : DefOk l.prog w K mg base 3 "_law_word" ["pen", "signs", "most"] sp_word := ok__law_word T (at_mk X G a4 l4 c4 k4) D__law_draw
  have D__law_same_truth : DefOk l.prog w K mg base 1 "_law_same_truth" ["result", "expected"] sp_same_truth := ok__law_same_truth T (at_mk X G a5 l5 c5 k5)
  have D_is_name : DefOk l.prog w K mg base 1 "is_name" ["thing"] sp_is_name := ok_is_name T (at_mk X G a6 l6 c6 k6)
  have D__law_is_name : DefOk l.prog w K mg base 1 "_law_is_name" ["thing"] sp_is_name := ok__law_is_name T (at_mk X G a7 l7 c7 k7)
  have D_is_codeword : DefOk l.prog w K mg base 1 "is_codeword" ["radix", "depth", "thing"] sp_is_codeword := ok_is_codeword T (at_mk X G a8 l8 c8 k8)
  have D__law_is_codeword : DefOk l.prog w K mg base 1 "_law_is_codeword" ["radix", "depth", "thing"] sp_is_codeword := ok__law_is_codeword T (at_mk X G a9 l9 c9 k9)
  have D_law : DefOk l.prog w K mg base 7 "law" ["script"] (sp_law K) := ok_law T (at_mk X G a10 l10 c10 k10) D__law_pen D__law_draw D__law_any D__law_word D__law_same_truth D_is_name D__law_is_name D_is_codeword D__law_is_codeword
  exact D_law
end Kc

open PySem PySem.W PyProof.Rows in
set_option maxRecDepth 100000 in
set_option maxHeartbeats 0 in
theorem PySem.Challenge.cw_keptcode_k02_names_and_codewords_holds : PySem.Challenge.rw_keptcode_k02_names_and_codewords.Holds := by
  w_on; o_law; k_head; (case hw => w_witness2)
  k_fill
  refine Kc.walk_law (l := PySem.Challenge.rw_keptcode_k02_names_and_codewords) 7 Kc.sp_law rfl rfl ⟨rfl, by decide, by decide⟩ (fun w h Y => PySem.W.kIn_of Y) (fun _ _ a ns hl hS => ⟨a, ns, rfl, hS, hl, fun _ => rfl⟩) ?F
  case F =>
    intro w mg fa h KX G hmg
    refine' Kc.all_mk KX G hmg ?a0 ?l0 ?c0 ?k0 ?a1 ?l1 ?c1 ?k1 ?a2 ?l2 ?c2 ?k2 ?a3 ?l3 ?c3 ?k3 ?a4 ?l4 ?c4 ?k4 ?a5 ?l5 ?c5 ?k5 ?a6 ?l6 ?c6 ?k6 ?a7 ?l7 ?c7 ?k7 ?a8 ?l8 ?c8 ?k8 ?a9 ?l9 ?c9 ?k9 ?a10 ?l10 ?c10 ?k10 ?z_len ?z_isinstance ?z_all ?z_str ?z_bool ?z_list ?z_tuple ?z_dict ?z_range ?y_gLETTERS ?y_gDIGITS ?y_gMAX_NAME
    (case a0 => k_is)
    (case l0 => k_is)
    (case c0 => k_is)
    (case k0 => k_is)
    (case a1 => k_is)
    (case l1 => k_is)
    (case c1 => k_is)
    (case k1 => k_is)
    (case a2 => k_is)
    (case l2 => k_is)
    (case c2 => k_is)
    (case k2 => k_is)
    (case a3 => k_is)
    (case l3 => k_is)
    (case c3 => k_is)
    (case k3 => k_is)
    (case a4 => k_is)
    (case l4 => k_is)
    (case c4 => k_is)
    (case k4 => k_is)
    (case a5 => k_is)
    (case l5 => k_is)
    (case c5 => k_is)
    (case k5 => k_is)
    (case a6 => k_is)
    (case l6 => k_is)
    (case c6 => k_is)
    (case k6 => k_is)
    (case a7 => k_is)
    (case l7 => k_is)
    (case c7 => k_is)
    (case k7 => k_is)
    (case a8 => k_is)
    (case l8 => k_is)
    (case c8 => k_is)
    (case k8 => k_is)
    (case a9 => k_is)
    (case l9 => k_is)
    (case c9 => k_is)
    (case k9 => k_is)
    (case a10 => k_is)
    (case l10 => k_is)
    (case c10 => k_is)
    (case k10 => k_is)
    (case z_len => k_is)
    (case z_isinstance => k_is)
    (case z_all => k_is)
    (case z_str => k_is)
    (case z_bool => k_is)
    (case z_list => k_is)
    (case z_tuple => k_is)
    (case z_dict => k_is)
    (case z_range => k_is)
    (case y_gLETTERS => k_is)
    (case y_gDIGITS => k_is)
    (case y_gMAX_NAME => k_is)
