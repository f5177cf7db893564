import PyProof.Rows.All
import Wide.All
import OpenK.AllK
import Wide.FinOn
import HandS.ForMost
import HandS.ForExc
import HandS.IsInst
import HandS.Walk
import HandS.Strs
import HandS.Sort
import HandS.Wide
import HandS.Codes
import HandS.ListItems
import HandS.DictComp
import HandS.More
import HandS.Conv
import HandS.OwnEq
import HandS.Flow
import KE.KDictList
import HandS.Comp
import HandS.Defaults
import HandS.Small
import HandS.RaiseMore
import HandS.WordsExc
import PyProof.Rows.SortShellAny
import HandS.WordsDict
import PyProof.ReprRoads
import HandS.Ends
import PyProof.StrLawsRepr
import PyProof.FitsInt
import PyProof.ReprText
import KE.GoesZip
import KE.GoesMore
import KE.KDictZip
import HandS.TryOnly
import HandS.ExcOwn
import HandS.CallSlots
import HandS.ExcIs
import HandS.FStr
import PyProof.ReprReads
import KE.DataFind
import HandS.ExcInit
import HandS.ExcField
import KE.KExcIs
import PyProof.StrOps2
import KE.KEqNest
import PyProof.ListStr
import PyProof.CollectStr
import HandS.ExcValue
import HandS.Style
import HandS.Finally
import HandS.NoneIn
import HandS.TupLe
import HandS.TupAny
import PySem.Challenge.RW_keptcode_k05_equal_codebooks
set_option Elab.async false
set_option linter.all false
set_option maxRecDepth 100000
set_option maxHeartbeats 4000000
namespace Kc
open PySem PySem.Spec L2
open PyProof.Rows hiding St
open C8 (tCut pss_cut)
open TL
/-! ### a def of the top, by its name -/
structure At (K : PySem.W.Frag) (mg : Str → Option Value) (x qual : Str) (st : Stmt) : Prop where
  ex : ∃ f fd, Fun K x qual st f fd ∧ mg x = some (.ref f)
structure DefOk (P : Program) (w : World) (K : PySem.W.Frag) (mg : Str → Option Value) (base : Heap) (k : Nat) (x : Str) (ps : List Str) (sp : Sp) : Prop where
  ex : ∃ f fd, FnOk P w K mg base (L2.CX P w) k f fd ps sp ∧ mg x = some (.ref f) ∧ PySem.W.keepIn K (.ref f) = true ∧ Binds K fd ps [] ∧ ∃ oc od osl, K.lookup f = some ⟨oc, od, .func fd, osl⟩
section
variable {P : Program} {w : World} {K : PySem.W.Frag} {mg : Str → Option Value} {base : Heap}
theorem DefOk.of {x : Str} {st : Stmt} {N ps : List Str} {k : Nat} {sp : Sp} (F : At K mg x x st) (S : FnScope N ps (defScope st))
    (hb : ∀ (kV doc pm : Value) (an : Option Addr) (cdv ct : Value) (us : List Value), us.length = ps.length → bindArgs (PySem.W.fnOf x x (defArgs st) (defBody st) (defScope st) .none kV doc pm an cdv ct) ⟨us, []⟩ = pure (ps.zip us))
    (len : ∀ vs H Q E, sp vs H Q E → vs.length = ps.length)
    (hbody : ∀ (f : Addr) (cdv : Value) (A : Around) (outer : List Env) (s : Shared) (H : Hp) (vs : List V) (Q : VK) (E : XK), Room k (A.deeper (envOfC x (defScope st) s.heap.objs.size f cdv)) → sp vs H Q E →
      ∃ t, PSs (cxOf (L2.CX P w) P w K mg base N x (defScope st) f cdv A outer s H E) (defBody st) t ∧ t { nx := fun _ H' => Q .non H', rt := Q } (start N vs) H) : DefOk P w K mg base (k + 1) x ps sp := by
  obtain ⟨f, fd, F, g⟩ := F.ex
  have F' := F
  obtain ⟨oc, od, kV, doc, pm, an, cdv, ct, osl, e, lk, _⟩ := F'.ex
  exact ⟨f, fd, F.okX S len (hbody f), g, F.kp, F.binds hb, oc, od, osl, lk⟩
theorem DefOk.mono {x : Str} {ps : List Str} {j k : Nat} {sp : Sp} (D : DefOk P w K mg base j x ps sp) (h : j ≤ k) : DefOk P w K mg base k x ps sp := by
  obtain ⟨f, fd, F, r⟩ := D.ex
  exact ⟨f, fd, F.mono h, r⟩
theorem DefOk.imp {x : Str} {ps : List Str} {k : Nat} {sp sp' : Sp} (D : DefOk P w K mg base k x ps sp) (h : ∀ vs H Q E, sp' vs H Q E → sp vs H Q E) : DefOk P w K mg base k x ps sp' := by
  obtain ⟨f, fd, F, r⟩ := D.ex
  exact ⟨f, fd, F.imp h, r⟩
end
section
variable {X : Cx} {k : Nat} {ps : List Str} {sp : Sp} {E : XK} {x : Str} {p pos : Pos} {e : Expr} {es : List Expr} {t : TA}
theorem pe_callD (D : DefOk X.prog X.w X.K X.mg X.base k x ps sp) (hr : Room k X.A) (hx : Passes (L2.CX X.prog X.w) X E) (ha : PA X (e :: es) t) (hg : Gl X x := by rfl) (hdb : (x == ("__debug__" : Str)) = false := by decide)
    (he : starEach (e :: es) X.env = (false, eval e X.env) :: starEach es X.env := by rfl) (hpl : (backTo pos (starEach es X.env)).any (·.1) = false := by rfl) :
    PE X (.Call (.Name x p) (e :: es) [] pos) (tCall sp [] E t) := by
  obtain ⟨f, fd, F, g, kp, b, _⟩ := D.ex
  exact pe_call F hr hg g kp b .nil hx ha hdb he hpl
theorem pe_callD0 (D : DefOk X.prog X.w X.K X.mg X.base k x ps sp) (hr : Room k X.A) (hx : Passes (L2.CX X.prog X.w) X E) (hg : Gl X x := by rfl) (hdb : (x == ("__debug__" : Str)) = false := by decide) :
    PE X (.Call (.Name x p) [] [] pos) (tCall sp [] E tNil) := by
  obtain ⟨f, fd, F, g, kp, b, _⟩ := D.ex
  exact pe_call0 F hr hg g kp b .nil hx hdb
end

/-- a module's constant -/
theorem pe_gs {X : Cx} {x : Str} {z : Str} {pos : Pos} (hm : ∃ t, X.mg x = some (.str z t)) (hg : Gl X x := by rfl) (hd : (x == ("__debug__" : Str)) = false := by decide) : PE X (.Name x pos) (tC (.str z)) := by
  obtain ⟨t, hm⟩ := hm
  exact pe_glob hg hm ⟨t, rfl⟩ hd
theorem pe_gi {X : Cx} {x : Str} {i : Int} {pos : Pos} (hm : ∃ t, X.mg x = some (.int i t)) (hg : Gl X x := by rfl) (hd : (x == ("__debug__" : Str)) = false := by decide) : PE X (.Name x pos) (tC (.int i)) := by
  obtain ⟨t, hm⟩ := hm
  exact pe_glob hg hm ⟨t, rfl⟩ hd

/-- a built-in class as a value -/
theorem pe_ty {X : Cx} (n : String) {pos : Pos} (hm : X.mg (Str.ofString n) = none) (hv : bootBuiltins (Str.ofString n) = some (.type n)) (hg : Gl X (Str.ofString n) := by rfl) (hn : (Str.ofString n) ≠ "__name__" := by decide) (hd : ((Str.ofString n) == ("__debug__" : Str)) = false := by decide) :
    PE X (.Name (Str.ofString n) pos) (tC (.ty n)) := pe_bltn hg hm hv rfl hn hd

/-! ### the end -/
theorem at_mk {K : PySem.W.Frag} {h : Heap} {mg : Str → Option Value} (X : K.In h) (G : h.Ns mainGlobals mg) {x qual : Str} {st : Stmt} {f : Addr} {oc : Value} {od an : Option Addr} {osl : Array (Option Value)} {kV doc pm cdv ct : Value}
    (a : PySem.W.nsIn K mainGlobals x = some (some (.ref f))) (l : K.lookup f = some ⟨oc, od, .func (PySem.W.fnOf x qual (defArgs st) (defBody st) (defScope st) .none kV doc pm an cdv ct), osl⟩)
    (c : PySem.W.codeIn K cdv qual = true) (k : PySem.W.keepIn K (.ref f) = true) : At K mg x qual st := ⟨f, _, fun_mk l c k, PySem.W.mg_of X G a⟩
theorem DefOk.at {P : Program} {w : World} {K : PySem.W.Frag} {mg : Str → Option Value} {base : Heap} {k : Nat} {x : Str} {ps : List Str} {sp : Sp} (D : DefOk P w K mg base k x ps sp) {f : Addr} {fd : FuncData} {oc : Value} {od : Option Addr} {osl : Array (Option Value)}
    (g : mg x = some (.ref f)) (l : K.lookup f = some ⟨oc, od, .func fd, osl⟩) : FnOk P w K mg base (L2.CX P w) k f fd ps sp := by
  obtain ⟨f', fd', F, g', _, _, oc', od', osl', l'⟩ := D.ex
  rw [g] at g'
  cases g'
  rw [l] at l'
  cases l'
  exact F
theorem cx_no {P : Program} {w : World} {H : Hp} {s : Shared} {e : Value} {s' : Shared} (h : L2.CX P w [] H s (fun _ _ _ => False) e s') : False := by
  obtain ⟨_, _, _, _, _, _, _, _, _, _, _, _, z⟩ := h
  exact z.elim

theorem walk_law {l : PySem.W.OpenLaw} {q : Program} {loose : List Str} {XP : (Str → Option Value) → Heap → Prop} {YP : World → Heap → Prop} {d : DefRec} {K : Params → PySem.W.Frag} (k : Nat) (sp : PySem.W.Frag → Sp) (hn : l.most = some 63) (hdf : d.params.defaults = []) (hr : Room k callerA)
    (hY : ∀ (w : World) (h : Heap), YP w h → (K w.params).In h)
    (hsp : ∀ (K : PySem.W.Frag) (H : Hp) (a : Addr) (ns : List Int), ns.length ≤ 63 → SqL K H a (ns.map V.int) → sp K [.ref a] H (fun v _ => v = .bl true) fun _ _ _ => False)
    (F : ∀ (w : World) (mg : Str → Option Value) (fa : Addr) (h : Heap), (K w.params).In h → h.Ns mainGlobals mg → mg d.name = some (.ref fa) →
      ∃ fd : FuncData, (∀ (s : Shared) (u : Value), BindsTo s fd ⟨[u], []⟩ [("script", u)]) ∧ ∀ base : Heap, (K w.params).In base → base.Ns mainGlobals mg → FnOk l.prog w (K w.params) mg base (L2.CX l.prog w) k fa fd ["script"] (sp (K w.params))) :
    PySem.W.WalkO q loose XP YP l.row.toRowW d [] (fun f vs => PySem.call f vs) :=
  L2.walk_of (n := 63) (k := k) (x := "script") (CX := fun w => L2.CX l.prog w) (sp := fun w => sp (K w.params)) hn (by decide) hdf hr hY F (fun w H a ns hl _ hS => hsp _ H a ns hl hS) fun _ _ _ _ _ z => cx_no z

/-! ### heaps but for some places -/
def wo (S : List Addr) (H : Hp) : Hp := fun b => if b ∈ S then none else H b
abbrev Kp (S : List Addr) (H H' : Hp) : Prop := Same (wo S H) (wo S H')
theorem wo_some {S : List Addr} {H : Hp} {b : Addr} {o : HO} (h : wo S H b = some o) : b ∉ S ∧ H b = some o := by
  unfold wo at h
  by_cases q : b ∈ S
  · rw [if_pos q] at h; cases h
  · rw [if_neg q] at h; exact ⟨q, h⟩
theorem wo_of {S : List Addr} {H : Hp} {b : Addr} {o : HO} (q : b ∉ S) (h : H b = some o) : wo S H b = some o := by
  unfold wo; rw [if_neg q]; exact h
theorem wo_same (S : List Addr) (H : Hp) : Same (wo S H) H := fun _ _ h => (wo_some h).2
theorem same_wo {H H' : Hp} (h : Same H H') (S : List Addr) : Kp S H H' := fun _ _ q => wo_of (wo_some q).1 (h _ _ (wo_some q).2)
theorem kp_at {S : List Addr} {H H' : Hp} (h : Kp S H H') {b : Addr} {o : HO} (q : b ∉ S) (e : H b = some o) : H' b = some o := (wo_some (h b o (wo_of q e))).2
theorem kp_upd {S : List Addr} {H : Hp} {p : Addr} {o : HO} (hp : p ∈ S) : Kp S H (upd H p o) := fun b u q => by
  obtain ⟨h1, h2⟩ := wo_some q
  exact wo_of h1 (by rw [upd_ne (fun z => h1 (by rw [z]; exact hp))]; exact h2)
theorem same_upd {H : Hp} {p : Addr} {o : HO} (hp : H p = none) : Same H (upd H p o) := fun b u q => by
  rw [upd_ne (ne_of_none q hp)]; exact q
/-- a place that is new to the one heap may be written in a later one -/
theorem same_put {H H' : Hp} (h : Same H H') {p : Addr} {o : HO} (hp : H p = none) : Same H (upd H' p o) := fun b u q => by
  rw [upd_ne (ne_of_none q hp)]; exact h b u q
theorem kp_put {S : List Addr} {H H' : Hp} (h : Kp S H H') {p : Addr} {o : HO} (hp : p ∈ S) : Kp S H (upd H' p o) := h.trans (kp_upd hp)
theorem kp_new {S : List Addr} {H H' : Hp} (h : Kp S H H') {p : Addr} {o : HO} (hp : H p = none) : Kp S H (upd H' p o) := fun b u q => by
  obtain ⟨h1, h2⟩ := wo_some q
  exact wo_of h1 (by rw [upd_ne (ne_of_none h2 hp)]; exact (wo_some (h b u q)).2)

/-- all but p is as it was; then a place that was new to the first heap is written -/
theorem kp_kp {S : List Addr} {H H1 H2 : Hp} {D : Addr} (s : Kp S H H1) (hD : H D = none) (k : Kp [D] H1 H2) : Kp S H H2 := fun b u q => by
  obtain ⟨h1, h2⟩ := wo_some q
  have h3 := kp_at s h1 h2
  exact wo_of h1 (kp_at k (by simpa using ne_of_none h2 hD) h3)

/-! ### the walk of a pure comprehension: what was tracked stands, the new list holds what each turn gives -/
theorem range_fm {r : Nat → Option V} {n : Nat} : (List.range (n + 1)).filterMap r = (List.range n).filterMap r ++ (match r n with | some y => [y] | none => []) := by
  rw [List.range_succ, List.filterMap_append]
  cases e : r n with
  | none => simp [e]
  | some y => simp [e]
theorem lc_pure {J : It} {n : Nat} {G : Hp → Prop} {Y : Nat → Hp → V → Hp → Prop} (w : Walk J n G Y) {g : TG} {tt : TT} {te : TE} {vs : List Nat} {σ : St} {H1 : Hp} {D : Addr} {Qd : Hp → Prop} (r : Nat → Option V)
    (hn : n ≤ 1000000) (hD : H1 D = none) (hG : ∀ H, Same H1 H → G H) (hY : ∀ i H x H', Y i H x H' → Same H H')
    (hs : ∀ i x H H' (Ky : V → Hp → Prop) (Kn : Hp → Prop), i < n → Same H1 H → Y i H x H' → (∀ y H4, Same H' H4 → r i = some y → Ky y H4) → (∀ H3, Same H' H3 → r i = none → Kn H3) →
      g x (wipe σ vs) H' fun σ2 H2 => wipe σ2 vs = wipe σ vs ∧ tt σ2 H2 fun b H3 => if b = true then te σ2 H3 Ky else Kn H3)
    (hd : ∀ H', Same H1 H' → H' D = some (.lst ((List.range n).filterMap r)) → Qd H') :
    ∃ W : Nat → Nat → Hp → Prop, (∃ m, W 0 m (upd H1 D (.lst []))) ∧ ∀ i m H, W i m H →
      (J.stop i H ∧ Qd H) ∨ (J.go i H ∧ ∃ Nx : Hp → Prop, (∀ H', Nx H' → ∃ m', m' < m ∧ W (i + 1) m' H') ∧ ∀ x H', J.yld i H x H' → g x (wipe σ vs) H' fun σ2 H2 => wipe σ2 vs = wipe σ vs ∧ tt σ2 H2 fun b H3 =>
        if b = true then te σ2 H3 fun y H4 => ∃ acc, H4 D = some (.lst acc) ∧ acc.length < sizeLine ∧ Nx (upd H4 D (.lst (acc ++ [y]))) else Nx H3) := by
  refine lc_it w (fun i H => Same H1 H ∧ H D = some (.lst ((List.range i).filterMap r))) ⟨same_upd hD, upd_same⟩ (fun i H _ h => hG H h.1) ?_ (fun H h => hd H h.1 h.2)
  rintro i x H H' hi ⟨s1, eD⟩ y
  have s2 := hY _ _ _ _ y
  refine hs i x H H' _ _ hi s1 y (fun v H4 s4 e => ?_) (fun H3 s3 e => ?_)
  · refine ⟨_, s4 _ _ (s2 _ _ eD), ?_, same_put (s1.trans (s2.trans s4)) hD, ?_⟩
    · have h1 := List.length_filterMap_le r (List.range i)
      rw [List.length_range] at h1
      have h2 : (sizeLine : Nat) = 16777216 := sizeLine_eq
      omega
    · rw [upd_same, range_fm, e]
  · refine ⟨s1.trans (s2.trans s3), ?_⟩
    rw [range_fm, e, List.append_nil]
    exact s3 _ _ (s2 _ _ eD)

/-! ### any object -/
/-- a text of a size that the model counts, of code points -/
def okS (x : Str) : Prop := x.length ≤ 20000 ∧ PyData.strOk x = true
def okK : Key → Prop
  | .inl _ => True
  | .inr x => okS x
inductive AnyV (H : Hp) : V → Prop where
  | non : AnyV H .non
  | bl (b : Bool) : AnyV H (.bl b)
  | int (i : Int) : AnyV H (.int i)
  | str (x : Str) (hx : okS x) : AnyV H (.str x)
  | lst {a : Addr} {xs : List V} (h : H a = some (.lst xs)) (hz : xs.length ≤ 1000) (hx : ∀ x ∈ xs, AnyV H x) : AnyV H (.ref a)
  | tup {a : Addr} {xs : List V} (h : H a = some (.tup xs)) (hz : xs.length ≤ 1000) (hx : ∀ x ∈ xs, AnyV H x) : AnyV H (.ref a)
  | dK {a : Addr} {kvs : List (Key × V)} (h : H a = some (.dK kvs)) (hz : kvs.length ≤ 1000) (hk : ∀ kv ∈ kvs, okK kv.1) (hx : ∀ kv ∈ kvs, AnyV H kv.2) : AnyV H (.ref a)
theorem AnyV.keep {H H' : Hp} {v : V} (s : Same H H') (h : AnyV H v) : AnyV H' v := by
  induction h with
  | non => exact .non
  | bl b => exact .bl b
  | int i => exact .int i
  | str x hx => exact .str x hx
  | lst h hz _ ih => exact .lst (s _ _ h) hz ih
  | tup h hz _ ih => exact .tup (s _ _ h) hz ih
  | dK h hz hk _ ih => exact .dK (s _ _ h) hz hk ih
theorem AnyV.of_wo {S : List Addr} {H : Hp} {v : V} (h : AnyV (wo S H) v) : AnyV H v := h.keep (wo_same S H)
theorem AnyV.okS {H : Hp} {x : Str} (h : AnyV H (.str x)) : okS x := by
  cases h with
  | str _ hx => exact hx
/-- what is tracked in H' and was not in H -/
def nw (H H' : Hp) : Hp := fun b => match H b with | none => H' b | some _ => none
theorem nw_some {H H' : Hp} {b : Addr} {o : HO} (h : nw H H' b = some o) : H b = none ∧ H' b = some o := by
  unfold nw at h
  split at h
  · exact ⟨by assumption, h⟩
  · cases h
theorem nw_at {H H' : Hp} {b : Addr} {o : HO} (h0 : H b = none) (h : H' b = some o) : nw H H' b = some o := by
  unfold nw
  rw [h0]
  exact h
theorem nw_same (H H' : Hp) : Same (nw H H') H' := fun _ _ h => (nw_some h).2
theorem nw_mono {H H1 H2 : Hp} (s : Same H1 H2) : Same (nw H H1) (nw H H2) := fun _ _ h => nw_at (nw_some h).1 (s _ _ (nw_some h).2)
theorem nw_kp {S : List Addr} {H H1 H2 : Hp} (hS : ∀ b ∈ S, ∃ o, H b = some o) (k : Same (wo S H1) (wo S H2)) : Same (nw H H1) (nw H H2) := fun b o h => by
  obtain ⟨h1, h2⟩ := nw_some h
  refine nw_at h1 (kp_at k (fun q => ?_) h2)
  obtain ⟨u, e⟩ := hS b q
  rw [h1] at e; cases e
/-- all that is tracked in H is tracked in H2 -/
def Dom (H H2 : Hp) : Prop := ∀ b o, H b = some o → ∃ o', H2 b = some o'
theorem Dom.of_same {H H2 : Hp} (s : Same H H2) : Dom H H2 := fun b o h => ⟨o, s b o h⟩
theorem Dom.trans {H H1 H2 : Hp} (a : Dom H H1) (b : Dom H1 H2) : Dom H H2 := fun c o h => by
  obtain ⟨u, e⟩ := a c o h
  exact b c u e
theorem Dom.of_kp {S : List Addr} {H H2 : Hp} (k : Same (wo S H) (wo S H2)) (hS : ∀ b ∈ S, ∃ o, H2 b = some o) : Dom H H2 := fun b o h => by
  by_cases q : b ∈ S
  · exact hS b q
  · exact ⟨o, kp_at k q h⟩
theorem nw_dom {H H2 H4 : Hp} (d : Dom H H2) : Same (nw H2 H4) (nw H H4) := fun b o h => by
  obtain ⟨h1, h2⟩ := nw_some h
  refine nw_at ?_ h2
  cases e : H b with
  | none => rfl
  | some u =>
    obtain ⟨u', e'⟩ := d b u e
    rw [h1] at e'; cases e'
def isS : V → Bool | .str _ => true | _ => false
def isI : V → Bool | .int _ => true | .bl _ => true | _ => false
def isB : V → Bool | .bl _ => true | _ => false
section
variable {K : PySem.W.Frag} {H : Hp} {v : V} {Q : VK}
theorem isi_of {T n : String} {b : Bool} (ty : TyX K H v (.type T)) (k : kitB T n = some b) (q : Q (.bl b) H) : rIsi K [v, .ty n] H Q := ⟨_, _, _, _, _, rfl, .ty n, ty, kit_ty k, q⟩
theorem isi_str (h : AnyV H v) (q : Q (.bl (isS v)) H) : rIsi K [v, .ty "str"] H Q := by
  cases h with
  | non => exact isi_of (.base (.non)) (show kitB "NoneType" "str" = some false by decide +kernel) q
  | bl b => exact isi_of (.base (.bl b)) (show kitB "bool" "str" = some false by decide +kernel) q
  | int i => exact isi_of (.base (.int i)) (show kitB "int" "str" = some false by decide +kernel) q
  | str x _ => exact isi_of (.base (.str x)) (show kitB "str" "str" = some true by decide +kernel) q
  | lst h _ _ => exact isi_of (.base (.lst h)) (show kitB "list" "str" = some false by decide +kernel) q
  | tup h _ _ => exact isi_of (.base (.tup h)) (show kitB "tuple" "str" = some false by decide +kernel) q
  | dK h _ _ _ => exact isi_of (.base (.dK h)) (show kitB "dict" "str" = some false by decide +kernel) q
theorem isi_int (h : AnyV H v) (q : Q (.bl (isI v)) H) : rIsi K [v, .ty "int"] H Q := by
  cases h with
  | non => exact isi_of (.base (.non)) (show kitB "NoneType" "int" = some false by decide +kernel) q
  | bl b => exact isi_of (.base (.bl b)) (show kitB "bool" "int" = some true by decide +kernel) q
  | int i => exact isi_of (.base (.int i)) (show kitB "int" "int" = some true by decide +kernel) q
  | str x _ => exact isi_of (.base (.str x)) (show kitB "str" "int" = some false by decide +kernel) q
  | lst h _ _ => exact isi_of (.base (.lst h)) (show kitB "list" "int" = some false by decide +kernel) q
  | tup h _ _ => exact isi_of (.base (.tup h)) (show kitB "tuple" "int" = some false by decide +kernel) q
  | dK h _ _ _ => exact isi_of (.base (.dK h)) (show kitB "dict" "int" = some false by decide +kernel) q
theorem isi_bool (h : AnyV H v) (q : Q (.bl (isB v)) H) : rIsi K [v, .ty "bool"] H Q := by
  cases h with
  | non => exact isi_of (.base (.non)) (show kitB "NoneType" "bool" = some false by decide +kernel) q
  | bl b => exact isi_of (.base (.bl b)) (show kitB "bool" "bool" = some true by decide +kernel) q
  | int i => exact isi_of (.base (.int i)) (show kitB "int" "bool" = some false by decide +kernel) q
  | str x _ => exact isi_of (.base (.str x)) (show kitB "str" "bool" = some false by decide +kernel) q
  | lst h _ _ => exact isi_of (.base (.lst h)) (show kitB "list" "bool" = some false by decide +kernel) q
  | tup h _ _ => exact isi_of (.base (.tup h)) (show kitB "tuple" "bool" = some false by decide +kernel) q
  | dK h _ _ _ => exact isi_of (.base (.dK h)) (show kitB "dict" "bool" = some false by decide +kernel) q
end
def isD (H : Hp) : V → Bool
  | .ref a => match H a with | some (.dK _) => true | _ => false
  | _ => false
def isL (H : Hp) : V → Bool
  | .ref a => match H a with | some (.lst _) => true | _ => false
  | _ => false
def isT (H : Hp) : V → Bool
  | .ref a => match H a with | some (.tup _) => true | _ => false
  | _ => false
section
variable {K : PySem.W.Frag} {H : Hp} {v : V} {Q : VK}
theorem isi_dict (h : AnyV H v) (q : Q (.bl (isD H v)) H) : rIsi K [v, .ty "dict"] H Q := by
  cases h with
  | non => exact isi_of (.base .non) (show kitB "NoneType" "dict" = some false by decide +kernel) q
  | bl b => exact isi_of (.base (.bl b)) (show kitB "bool" "dict" = some false by decide +kernel) q
  | int i => exact isi_of (.base (.int i)) (show kitB "int" "dict" = some false by decide +kernel) q
  | str x _ => exact isi_of (.base (.str x)) (show kitB "str" "dict" = some false by decide +kernel) q
  | lst h _ _ => exact isi_of (.base (.lst h)) (show kitB "list" "dict" = some false by decide +kernel) (by simpa [isD, h] using q)
  | tup h _ _ => exact isi_of (.base (.tup h)) (show kitB "tuple" "dict" = some false by decide +kernel) (by simpa [isD, h] using q)
  | dK h _ _ _ => exact isi_of (.base (.dK h)) (show kitB "dict" "dict" = some true by decide +kernel) (by simpa [isD, h] using q)
theorem isi_list (h : AnyV H v) (q : Q (.bl (isL H v)) H) : rIsi K [v, .ty "list"] H Q := by
  cases h with
  | non => exact isi_of (.base .non) (show kitB "NoneType" "list" = some false by decide +kernel) q
  | bl b => exact isi_of (.base (.bl b)) (show kitB "bool" "list" = some false by decide +kernel) q
  | int i => exact isi_of (.base (.int i)) (show kitB "int" "list" = some false by decide +kernel) q
  | str x _ => exact isi_of (.base (.str x)) (show kitB "str" "list" = some false by decide +kernel) q
  | lst h _ _ => exact isi_of (.base (.lst h)) (show kitB "list" "list" = some true by decide +kernel) (by simpa [isL, h] using q)
  | tup h _ _ => exact isi_of (.base (.tup h)) (show kitB "tuple" "list" = some false by decide +kernel) (by simpa [isL, h] using q)
  | dK h _ _ _ => exact isi_of (.base (.dK h)) (show kitB "dict" "list" = some false by decide +kernel) (by simpa [isL, h] using q)
/-- isinstance(x, (tuple, list)) -/
theorem isi_tl {T : Addr} {vl : List V} (e : vl = [v, .ref T]) (h : AnyV H v) (hT : H T = some (.tup [.ty "tuple", .ty "list"])) (q : Q (.bl (isT H v || isL H v)) H) : rIsiT K vl H Q := by
  have go : ∀ {t : String} {a b : Bool}, TyX K H v (.type t) → kitB t "tuple" = some a → kitB t "list" = some b → (a || b) = (isT H v || isL H v) → rIsiT K vl H Q := fun {t a b} ty k1 k2 ee =>
    ⟨v, T, _, _, [.type "tuple", .type "list"], a || b, e, hT, .cons (.ty _) (.cons (.ty _) .nil), ty, kitAny_cons (kit_ty k1) (fun ha => kitAny_cons (kit_ty k2) (fun hb => by rw [ha, hb]; rfl) (fun hb => by rw [hb]; simp)) (fun ha => by rw [ha]; rfl), by rw [ee]; exact q⟩
  cases h with
  | non => exact go (.base .non) (show _ = some false by decide +kernel) (show _ = some false by decide +kernel) rfl
  | bl b => exact go (.base (.bl b)) (show _ = some false by decide +kernel) (show _ = some false by decide +kernel) rfl
  | int i => exact go (.base (.int i)) (show _ = some false by decide +kernel) (show _ = some false by decide +kernel) rfl
  | str x _ => exact go (.base (.str x)) (show _ = some false by decide +kernel) (show _ = some false by decide +kernel) rfl
  | lst h _ _ => exact go (.base (.lst h)) (show _ = some false by decide +kernel) (show _ = some true by decide +kernel) (by simp [isT, isL, h])
  | tup h _ _ => exact go (.base (.tup h)) (show _ = some true by decide +kernel) (show _ = some false by decide +kernel) (by simp [isT, isL, h])
  | dK h _ _ _ => exact go (.base (.dK h)) (show _ = some false by decide +kernel) (show _ = some false by decide +kernel) (by simp [isT, isL, h])
end
theorem isS_or (v : V) : (∃ x, v = .str x) ∨ isS v = false := by
  cases v <;> simp [isS]
theorem isS_iff {v : V} : isS v = true ↔ ∃ x, v = .str x := by
  cases v <;> simp [isS]

/-! ### what the draws read and write -/
/-- the list of draws, at p: its numbers stand at l, its index is at most b -/
structure PenAt (b : Nat) (p l : Addr) (H : Hp) : Prop where
  ex : ∃ (ns : List Int) (idx rest : Int), H p = some (.lst [.ref l, .int idx, .int rest]) ∧ H l = some (.lst (ns.map V.int)) ∧ 0 ≤ idx ∧ idx ≤ (b : Int) ∧ 0 ≤ rest ∧ l ≠ p
theorem PenAt.keep {b : Nat} {p l : Addr} {H H' : Hp} (h : PenAt b p l H) (s : Same H H') : PenAt b p l H' := by
  obtain ⟨ns, idx, rest, h1, h2, r⟩ := h.ex
  exact ⟨ns, idx, rest, s _ _ h1, s _ _ h2, r⟩
theorem PenAt.kp {b : Nat} {p l D : Addr} {H H' : Hp} (h : PenAt b p l H) (h1 : p ≠ D) (h2 : l ≠ D) (s : Same (wo [D] H) (wo [D] H')) : PenAt b p l H' := by
  obtain ⟨ns, idx, rest, e1, e2, r⟩ := h.ex
  exact ⟨ns, idx, rest, kp_at s (by simpa using h1) e1, kp_at s (by simpa using h2) e2, r⟩
theorem PenAt.mono {b c : Nat} {p l : Addr} {H : Hp} (h : PenAt b p l H) (hb : b ≤ c) : PenAt c p l H := by
  obtain ⟨ns, idx, rest, h1, h2, h3, h4, r⟩ := h.ex
  exact ⟨ns, idx, rest, h1, h2, h3, by omega, r⟩
theorem PenAt.some_p {b : Nat} {p l : Addr} {H : Hp} (h : PenAt b p l H) : ∃ o, H p = some o := by
  obtain ⟨ns, idx, rest, h1, _⟩ := h.ex
  exact ⟨_, h1⟩
theorem PenAt.some_l {b : Nat} {p l : Addr} {H : Hp} (h : PenAt b p l H) : ∃ o, H l = some o := by
  obtain ⟨ns, idx, rest, _, h1, _⟩ := h.ex
  exact ⟨_, h1⟩
theorem PenAt.ne_p {b : Nat} {p l D : Addr} {H : Hp} (h : PenAt b p l H) (hD : H D = none) : p ≠ D := by
  obtain ⟨o, e⟩ := h.some_p
  exact ne_of_none e hD
theorem PenAt.ne_l {b : Nat} {p l D : Addr} {H : Hp} (h : PenAt b p l H) (hD : H D = none) : l ≠ D := by
  obtain ⟨o, e⟩ := h.some_l
  exact ne_of_none e hD

/-! ### lists of strings, of ints -/
theorem getElem?_map_inv {α : Type} {f : α → V} {xs : List α} {i : Nat} {v : V} (h : (xs.map f)[i]? = some v) : ∃ x, xs[i]? = some x ∧ v = f x := by
  rw [List.getElem?_map] at h
  cases e : xs[i]? with
  | none => rw [e] at h; cases h
  | some x => rw [e] at h; exact ⟨x, rfl, (Option.some.inj h).symm⟩
/-- what a comprehension over a list gives, turn by turn -/
theorem fm_bind {α β : Type} (f : α → Option β) : ∀ (xs : List α), (List.range xs.length).filterMap (fun i => (xs[i]?).bind f) = xs.filterMap f
  | [] => rfl
  | x :: xs => by
    rw [List.length_cons, List.range_succ_eq_map, List.filterMap_cons, List.filterMap_map, List.filterMap_cons]
    have ih := fm_bind f xs
    have e : ((fun i => ((x :: xs)[i]?).bind f) ∘ Nat.succ) = fun i => (xs[i]?).bind f := by
      funext i; simp
    rw [e, ih]
    simp
theorem fm_map {α β : Type} (f : α → β) (xs : List α) : (List.range xs.length).filterMap (fun (i : Nat) => (xs[i]?).map f) = xs.map f := by
  have h := fm_bind (fun x => some (f x)) xs
  have e : (fun (i : Nat) => (xs[i]?).map f) = fun (i : Nat) => (xs[i]?).bind (fun x => some (f x)) := by
    funext i; cases xs[i]? <;> rfl
  rw [e, h]
  simp
theorem fm_arr {β : Type} (f : Nat → β) (xs : Array Nat) : (List.range xs.size).filterMap (fun (i : Nat) => (xs[i]?).map f) = xs.toList.map f := by
  have h := fm_map f xs.toList
  simpa using h
theorem fm_fn {β : Type} (f : Nat → β) (n : Nat) : (List.range n).filterMap (fun (i : Nat) => some (f i)) = (List.range n).map f := by
  simp

/-- a fact of an earlier heap -/
theorem same_at {H H' : Hp} (s : Same H H') {b : Addr} {o : HO} (h : H b = some o) : H' b = some o := s b o h
theorem seqL_at {K : PySem.W.Frag} {H H' : Hp} (s : Same H H') {b : Addr} {xs : List V} (h : SqL K H b xs) : SqL K H' b xs := s.seq h
/-- what is wanted of a new object o: at any new place, in a heap that holds all that was tracked -/
def New (o : HO) (H : Hp) (Q : VK) : Prop := ∀ p H', H p = none → Same H H' → H' p = some o → Q (.ref p) H'
theorem New.go {o : HO} {H : Hp} {Q : VK} (h : New o H Q) {p : Addr} (hp : H p = none) : Q (.ref p) (upd H p o) := h p _ hp (same_upd hp) upd_same
def tLstN (t : TA) : TE := fun σ H Q => t σ H fun xs H1 => xs.length ≤ sizeLine ∧ New (.lst xs) H1 Q
def tTupN (t : TA) : TE := fun σ H Q => t σ H fun xs H1 => xs.length ≤ sizeLine ∧ New (.tup xs) H1 Q
def mA (t : TA) : TA := fun σ H R => ∃ R', t σ H R' ∧ ∀ xs H1, R' xs H1 → R xs H1
theorem PA_mono {X : Cx} {es : List Expr} {t : TA} (h : PA X es t) : PA X es (mA t) := ⟨fun pos pins s σ H Q I ⟨R, q, m⟩ =>
  thn (h.run pos pins s σ H R I q) fun _ _ ⟨vs, H', I', r, z⟩ => ⟨vs, H', I', r, m vs H' z⟩⟩
theorem PE_imp {X : Cx} {e : Expr} {t u : TE} (h : PE X e t) (m : ∀ σ H Q, u σ H Q → t σ H Q) : PE X e u := ⟨fun pins s σ H Q I q => h.run pins s σ H Q I (m σ H Q q)⟩
theorem pe_lstN {X : Cx} {es : List Expr} {t : TA} {pos : Pos} (h : PA X es t) : PE X (.List es pos) (tLstN t) :=
  PE_imp (pe_lst (PA_mono h)) fun σ H Q q => ⟨_, q, fun xs H1 ⟨hz, k⟩ => ⟨hz, fun p hp => k.go hp⟩⟩
theorem pe_tupN {X : Cx} {es : List Expr} {t : TA} {x1} {pos : Pos} (h : PA X es t) : PE X (.Tuple es x1 pos) (tTupN t) :=
  PE_imp (pe_tup (PA_mono h)) fun σ H Q q => ⟨_, q, fun xs H1 ⟨hz, k⟩ => ⟨hz, fun p hp => k.go hp⟩⟩
/-- a word between an expression and what follows -/
def mE (t : TE) : TE := fun σ H Q => ∃ M : VK, t σ H M ∧ ∀ v H', M v H' → Q v H'
theorem pe_mid {X : Cx} {e : Expr} {t : TE} (h : PE X e t) : PE X e (mE t) := ⟨fun pins s σ H Q I ⟨M, q, m⟩ =>
  thn (h.run pins s σ H M I q) fun _ _ ⟨v, H', I', r, z⟩ => ⟨v, H', I', r, m v H' z⟩⟩
theorem w_mid {t : TE} {σ : L2.St} {H : Hp} {Q : VK} (M : VK) (h : t σ H M) (k : ∀ v H', M v H' → Q v H') : mE t σ H Q := ⟨M, h, k⟩
section
variable {σ : L2.St} {H : Hp} {Q : VK} {D : Ends} {v x y : V} {i : Nat} {ta tb tc te : TE} {t u : TS} {g : TG} {c : TT} {K : PySem.W.Frag} {b : Bool}
/-! #### statements -/
theorem w_seq (h : t { D with nx := u D } σ H) : tSeq t u D σ H := h
theorem w_cut (M : L2.St → Hp → Prop) (h : t { D with nx := M } σ H) (k : ∀ σ' H', M σ' H' → u D σ' H') : tCut t u D σ H := ⟨M, h, k⟩
theorem w_next (h : D.nx σ H) : tNext D σ H := h
theorem w_asg (h : te σ H fun x H1 => g x σ H1 D.nx) : tAsg te g D σ H := h
theorem w_gname {R : L2.St → Hp → Prop} (h : R (σ.set i (some v)) H) : gName i v σ H R := h
theorem w_gsub {to ti : TE} {ts : TSet} {R : L2.St → Hp → Prop} (h : to σ H fun o H1 => ti σ H1 fun i H2 => ts o i v H2 fun H3 => R σ H3) : gSub to ti ts v σ H R := h
theorem w_gtup {n : Nat} {a : Addr} {xs : List V} {t : TGs} {R : L2.St → Hp → Prop} (h1 : SqT K H a xs) (h2 : xs.length = n) (h : t xs σ H R) : gTup K n t (.ref a) σ H R := ⟨a, xs, rfl, h1, h2, h⟩
theorem w_gcons {t : TG} {u : TGs} {r : List V} {R : L2.St → Hp → Prop} (h : t v σ H fun σ' H' => u r σ' H' R) : gCons t u (v :: r) σ H R := ⟨v, r, rfl, h⟩
theorem w_gnil {R : L2.St → Hp → Prop} (h : R σ H) : gNil [] σ H R := ⟨rfl, h⟩
theorem w_drop (h : te σ H fun _ H1 => D.nx σ H1) : tDrop te D σ H := h
theorem w_ret (h : te σ H D.rt) : tRet te D σ H := h
theorem w_retN (h : D.rt .non H) : tRetN D σ H := h
theorem w_ifS (h : c σ H fun b H1 => if b = true then t D σ H1 else u D σ H1) : tIfS c t u D σ H := h
theorem w_par {j : Nat} {ta : TA} (h : ta σ H fun vs H1 => ∃ v w, vs = [v, w] ∧ D.nx ((σ.set i (some v)).set j (some w)) H1) : tPar i j ta D σ H := h
theorem w_aug {ti : TIp} (e : σ[i]? = some (some x)) (h : te σ H fun y H1 => ti x y H1 fun z H2 => D.nx (σ.set i (some z)) H2) : tAug i te ti D σ H := ⟨x, e, h⟩
/-! #### expressions -/
theorem w_var (e : σ[i]? = some (some v)) (h : Q v H) : tVar i σ H Q := ⟨v, e, h⟩
theorem w_c (h : Q v H) : tC v σ H Q := h
theorem w_op {r : R2} (h : ta σ H fun x H1 => tb σ H1 fun y H2 => r x y H2 Q) : tOp r ta tb σ H Q := h
theorem w_un {r : V → Hp → VK → Prop} (h : ta σ H fun x H1 => r x H1 Q) : tUn r ta σ H Q := h
theorem w_chain {r r' : R2} (h : ta σ H fun x H1 => tb σ H1 fun y H2 => r x y H2 fun z H3 => ∃ k, z = .bl k ∧ (if k = true then tc σ H3 fun w' H4 => r' y w' H4 Q else Q (.bl false) H3)) : tChain r r' ta tb tc σ H Q := h
theorem w_nil {R : List V → Hp → Prop} (h : R [] H) : tNil σ H R := h
theorem w_cons {tr : TA} {R : List V → Hp → Prop} (h : te σ H fun x H1 => tr σ H1 fun xs H2 => R (x :: xs) H2) : tCons te tr σ H R := h
theorem w_tup {ta : TA} (h : ta σ H fun xs H1 => xs.length ≤ sizeLine ∧ New (.tup xs) H1 Q) : tTupN ta σ H Q := h
theorem w_lst {ta : TA} (h : ta σ H fun xs H1 => xs.length ≤ sizeLine ∧ New (.lst xs) H1 Q) : tLstN ta σ H Q := h
theorem w_sz {n : Nat} {A : Prop} (hz : n ≤ 1000000) (h : A) : n ≤ sizeLine ∧ A := ⟨by have h2 : (sizeLine : Nat) = 16777216 := sizeLine_eq; omega, h⟩
theorem w_cb {r : List V → Hp → VK → Prop} {ta : TA} (h : ta σ H fun vs H1 => r vs H1 Q) : tCB r ta σ H Q := h
theorem w_call {sp : Sp} {dvs : List V} {E : XK} {ta : TA} (h : ta σ H fun vs H1 => sp (vs ++ dvs) H1 Q E) : tCall sp dvs E ta σ H Q := h
theorem w_bm {T : String} {r : V → List V → Hp → VK → Prop} {to : TE} {t : TA} (h : to σ H fun x H1 => tyV K T x H1 ∧ t σ H1 fun xs H2 => r x xs H2 Q) : tBM K T r to t σ H Q := h
theorem w_bm0 {T : String} {r : V → List V → Hp → VK → Prop} {to : TE} (h : to σ H fun x H1 => tyV K T x H1 ∧ r x [] H1 Q) : tBM0 K T r to σ H Q := h
theorem w_m1 {r : V → List V → Hp → VK → Prop} {to te : TE} (h : to σ H fun x H1 => (∃ a, x = .str a) ∧ te σ H1 fun y H2 => r x [y] H2 Q) : tM1 r to te σ H Q := h
theorem w_sl {r : V → Option Int → Option Int → Hp → VK → Prop} {tl th : TO} (h : te σ H fun x H1 => tl σ H1 fun l H2 => th σ H2 fun u H3 => r x l u H3 Q) : tSl r te tl th σ H Q := h
theorem w_part {R : Option Int → Hp → Prop} (h : te σ H fun x H1 => ∃ i, x = .int i ∧ R (some i) H1) : tPart te σ H R := h
theorem w_nopart {R : Option Int → Hp → Prop} (h : R none H) : tNoPart σ H R := h
theorem w_andV (h : ta σ H fun x H1 => ∃ c, x = .bl c ∧ if c = true then tb σ H1 Q else Q (.bl false) H1) : tAndV ta tb σ H Q := h
theorem w_orV (h : ta σ H fun x H1 => ∃ c, x = .bl c ∧ if c = true then Q (.bl true) H1 else tb σ H1 Q) : tOrV ta tb σ H Q := h
theorem w_notV (h : ta σ H fun x H1 => ∃ c, x = .bl c ∧ Q (.bl (!c)) H1) : tNotV ta σ H Q := h
theorem w_if (h : c σ H fun b H1 => if b = true then ta σ H1 Q else tb σ H1 Q) : tIf c ta tb σ H Q := h
/-! #### tests -/
variable {R : Bool → Hp → Prop} {c' : TT}
theorem w_test (h : te σ H fun x H' => ∃ k, x = .bl k ∧ R k H') : tTest te σ H R := h
theorem w_tB (h : te σ H fun x H' => ∃ k, x = .bl k ∧ R k H') : tB te σ H R := h
theorem w_and (h : c σ H fun b H1 => if b = true then c' σ H1 R else R false H1) : tAnd c c' σ H R := h
theorem w_or (h : c σ H fun b H1 => if b = true then R true H1 else c' σ H1 R) : tOr c c' σ H R := h
theorem w_not (h : c σ H fun b H1 => R (!b) H1) : tNot c σ H R := h
theorem w_yes (h : R true H) : tYes σ H R := h
theorem w_bl {R : Bool → Prop} (h : R b) : ∃ k, V.bl b = V.bl k ∧ R k := ⟨b, rfl, h⟩
theorem w_in {R : Int → Prop} {j : Int} (h : R j) : ∃ k, V.int j = V.int k ∧ R k := ⟨j, rfl, h⟩
theorem w_str {R : Prop} {z : Str} (h : R) : (∃ a, V.str z = V.str a) ∧ R := ⟨⟨z, rfl⟩, h⟩
theorem w_two {R : V → V → Prop} (h : R x y) : ∃ v w, [x, y] = [v, w] ∧ R v w := ⟨x, y, rfl, h⟩
/-! #### operators on values -/
variable {m n : Int}
theorem w_rI0 {f : Int → Int → V} (h : Q (f m n) H) : rI0 f (.int m) (.int n) H Q := ⟨m, n, rfl, rfl, h⟩
theorem w_rI {C : Int → Int → Prop} {f : Int → Int → V} (hc : C m n) (h : Q (f m n) H) : rI C f (.int m) (.int n) H Q := ⟨m, n, rfl, rfl, hc, h⟩
theorem w_ip {f : Int → Int → Int} (h : Q (.int (f m n)) H) : ipI f (.int m) (.int n) H Q := ⟨m, n, rfl, rfl, h⟩
theorem w_rU {f : Int → V} (h : Q (f m) H) : rU f (.int m) H Q := ⟨m, rfl, h⟩
theorem dec_iI : decide (V.int m = V.int n) = decide (m = n) := by
  by_cases e : m = n
  · rw [e]; simp
  · rw [decide_eq_false e, decide_eq_false (fun z => e (V.int.inj z))]
theorem dec_iS {a b : Str} : decide (V.str a = V.str b) = decide (a = b) := by
  by_cases e : a = b
  · rw [e]; simp
  · rw [decide_eq_false e, decide_eq_false (fun z => e (V.str.inj z))]
theorem w_eqI (h : Q (.bl (decide (m = n))) H) : rEq (.int m) (.int n) H Q := ⟨rfl, by rw [dec_iI]; exact h⟩
theorem w_neI (h : Q (.bl (!decide (m = n))) H) : rNe (.int m) (.int n) H Q := ⟨rfl, by rw [dec_iI]; exact h⟩
theorem w_eqS {a b : Str} (h : Q (.bl (decide (a = b))) H) : rEq (.str a) (.str b) H Q := ⟨rfl, by rw [dec_iS]; exact h⟩
theorem w_neS {a b : Str} (h : Q (.bl (!decide (a = b))) H) : rNe (.str a) (.str b) H Q := ⟨rfl, by rw [dec_iS]; exact h⟩
theorem w_eqB {a b : Bool} (h : Q (.bl (decide (a = b))) H) : rEq (.bl a) (.bl b) H Q := ⟨rfl, by
  have : decide (V.bl a = V.bl b) = decide (a = b) := by
    by_cases e : a = b
    · rw [e]; simp
    · rw [decide_eq_false e, decide_eq_false (fun z => e (V.bl.inj z))]
  rw [this]; exact h⟩
/-- named forms of rules whose readings have no name -/
def rAddS : R2 := fun x y H Q => ∃ i j, x = .str i ∧ y = .str j ∧ i.length + j.length ≤ sizeLine ∧ Q (.str (i ++ j)) H
theorem op_addS {X : Cx} : OpR X (binaryOp .Add) rAddS := op_add_str
theorem w_addS {a b : Str} (hz : a.length + b.length ≤ sizeLine) (h : Q (.str (a ++ b)) H) : rAddS (.str a) (.str b) H Q := ⟨a, b, rfl, rfl, hz, h⟩
def rLtS : R2 := fun x y H Q => ∃ i j, x = .str i ∧ y = .str j ∧ Q (.bl (decide (i.cps.toList < j.cps.toList))) H
theorem op_ltS {X : Cx} : OpR X (compareOp .Lt) rLtS := op_lt_str
theorem w_ltS {a b : Str} (h : Q (.bl (decide (a.cps.toList < b.cps.toList))) H) : rLtS (.str a) (.str b) H Q := ⟨a, b, rfl, rfl, h⟩
def rLeS : R2 := fun x y H Q => ∃ i j, x = .str i ∧ y = .str j ∧ Q (.bl (!decide (j.cps.toList < i.cps.toList))) H
theorem op_leS {X : Cx} : OpR X (compareOp .LtE) rLeS := op_le_str
theorem w_leS {a b : Str} (h : Q (.bl (!decide (b.cps.toList < a.cps.toList))) H) : rLeS (.str a) (.str b) H Q := ⟨a, b, rfl, rfl, h⟩
def rInG : R2 := fun x y H Q => ∃ (c : Nat) (z : Str), x = .str ⟨#[c]⟩ ∧ y = .str z ∧ Q (.bl (decide (c ∈ z.cps.toList))) H
theorem op_inG {X : Cx} : OpR X (compareOp .In) rInG := op_in_sign
theorem w_inG {c : Nat} {z : Str} (h : Q (.bl (decide (c ∈ z.cps.toList))) H) : rInG (.str ⟨#[c]⟩) (.str z) H Q := ⟨c, z, rfl, rfl, h⟩
def rNotInG : R2 := fun x y H Q => ∃ (c : Nat) (z : Str), x = .str ⟨#[c]⟩ ∧ y = .str z ∧ Q (.bl (!decide (c ∈ z.cps.toList))) H
theorem op_notInG {X : Cx} : OpR X (compareOp .NotIn) rNotInG := op_notIn_sign
theorem w_notInG {c : Nat} {z : Str} (h : Q (.bl (!decide (c ∈ z.cps.toList))) H) : rNotInG (.str ⟨#[c]⟩) (.str z) H Q := ⟨c, z, rfl, rfl, h⟩
def rLen (K : PySem.W.Frag) : List V → Hp → VK → Prop := fun xs H Q => ∃ x n, xs = [x] ∧ LenV K x H n ∧ Q (.int n) H
theorem cr_len {X : Cx} {K : PySem.W.Frag} (h : X.K = K := by rfl) : CallR X (.builtin "len") (rLen K) := by subst h; exact call_len
theorem w_lenS {z : Str} (hz : z.length ≤ sizeLine) (h : Q (.int z.length) H) : rLen K [.str z] H Q := ⟨_, z.length, rfl, ⟨hz, rfl⟩, h⟩
theorem w_lenL {a : Addr} {xs : List V} (ha : SqL K H a xs) (h : Q (.int xs.length) H) : rLen K [.ref a] H Q := ⟨_, xs.length, rfl, .inl ⟨xs, ha, rfl⟩, h⟩
theorem w_lenT {a : Addr} {xs : List V} (ha : SqT K H a xs) (h : Q (.int xs.length) H) : rLen K [.ref a] H Q := ⟨_, xs.length, rfl, .inr ⟨xs, ha, rfl⟩, h⟩
def rStrI : List V → Hp → VK → Prop := fun xs H Q => ∃ i, xs = [.int i] ∧ i.natAbs.log2 < 1920 ∧ Q (.str (toString i)) H
theorem cr_strI {X : Cx} : CallR X (.type "str") rStrI := call_str_int
theorem w_strI (hz : m.natAbs.log2 < 1920) (h : Q (.str (toString m)) H) : rStrI [.int m] H Q := ⟨m, rfl, hz, h⟩
def rListOf (K : PySem.W.Frag) : List V → Hp → VK → Prop := fun xs H Q => ∃ p ys, xs = [.ref p] ∧ (SqL K H p ys ∨ SqT K H p ys) ∧ ∀ l, H l = none → Q (.ref l) (upd H l (.lst ys))
theorem cr_listOf {X : Cx} {K : PySem.W.Frag} (h : X.K = K := by rfl) : CallR X (.type "list") (rListOf K) := by subst h; exact call_list_of
theorem w_listOfL {a : Addr} {xs : List V} (ha : SqL K H a xs) (h : New (.lst xs) H Q) : rListOf K [.ref a] H Q := ⟨a, xs, rfl, .inl ha, fun _ hp => h.go hp⟩
theorem w_listOfT {a : Addr} {xs : List V} (ha : SqT K H a xs) (h : New (.lst xs) H Q) : rListOf K [.ref a] H Q := ⟨a, xs, rfl, .inr ha, fun _ hp => h.go hp⟩
def rTupOf (K : PySem.W.Frag) : List V → Hp → VK → Prop := fun xs H Q => ∃ p ys, xs = [.ref p] ∧ ((SqL K H p ys ∧ ∀ l, H l = none → Q (.ref l) (upd H l (.tup ys))) ∨ (SqT K H p ys ∧ Q (.ref p) H))
theorem cr_tupOf {X : Cx} {K : PySem.W.Frag} (h : X.K = K := by rfl) : CallR X (.type "tuple") (rTupOf K) := by subst h; exact call_tuple_of
theorem w_tupOfL {a : Addr} {xs : List V} (ha : SqL K H a xs) (h : New (.tup xs) H Q) : rTupOf K [.ref a] H Q := ⟨a, xs, rfl, .inl ⟨ha, fun _ hp => h.go hp⟩⟩
def rDictP (K : PySem.W.Frag) : List V → Hp → VK → Prop := fun xs H Q => ∃ (a : Addr) (ps : List Addr) (kvs : List (Key × V)), xs = [.ref a] ∧ SqL K H a (ps.map V.ref) ∧ Paired (fun p kv => SqT K H p [kV kv.1, kv.2]) ps kvs ∧
    ∀ p, H p = none → Q (.ref p) (upd H p (.dK (mergeK [] kvs)))
theorem cr_dictP {X : Cx} {K : PySem.W.Frag} (hc : X.calm = true) (h : X.K = K := by rfl) : CallR X (.type "dict") (rDictP K) := by subst h; exact call_dictP hc
theorem w_all {a : Addr} {bs : List Bool} (ha : SqL K H a (bs.map V.bl)) (h : Q (.bl (bs.all id)) H) : rAll K [.ref a] H Q := ⟨a, bs, rfl, ha, h⟩
theorem w_any {a : Addr} {bs : List Bool} (ha : SqL K H a (bs.map V.bl)) (h : Q (.bl (bs.any id)) H) : rAny K [.ref a] H Q := ⟨a, bs, rfl, ha, h⟩
theorem w_ixL {a : Addr} {xs : List V} (ha : SqL K H a xs) (hv : atI xs m = some v) (h : Q v H) : rIxL K (.ref a) (.int m) H Q := ⟨a, xs, m, v, rfl, rfl, ha, hv, h⟩
theorem w_ixT {a : Addr} {xs : List V} (ha : SqT K H a xs) (hv : atI xs m = some v) (h : Q v H) : rIxT K (.ref a) (.int m) H Q := ⟨a, xs, m, v, rfl, rfl, ha, hv, h⟩
theorem w_ixS {z : Str} {c : Nat} (hz : z.length ≤ sizeLine) (hc : atI z.cps.toList m = some c) (h : Q (.str ⟨#[c]⟩) H) : rIxS (.str z) (.int m) H Q := ⟨z, m, c, rfl, rfl, hz, hc, h⟩
theorem w_setL {a : Addr} {xs : List V} {j : Nat} {R : Hp → Prop} (ha : H a = some (.lst xs)) (hj : ixN xs.length m = some j) (h : R (upd H a (.lst (xs.set j v)))) : rSetL (.ref a) (.int m) v H R := ⟨a, xs, m, j, rfl, rfl, ha, hj, h⟩
theorem w_setL' {a : Addr} {xs : List V} (ys : List V) (j : Nat) {R : Hp → Prop} (ha : H a = some (.lst xs)) (hj : ixN xs.length m = some j) (hy : xs.set j v = ys) (h : R (upd H a (.lst ys))) : rSetL (.ref a) (.int m) v H R :=
  ⟨a, xs, m, j, rfl, rfl, ha, hj, by rw [hy]; exact h⟩
theorem w_slS {z : Str} {lo hi : Option Int} (hz : z.length ≤ sizeLine) (h : Q (.str (cutS z lo hi)) H) : rSlS (.str z) lo hi H Q := ⟨z, rfl, hz, h⟩
theorem w_slL {a : Addr} {xs : List V} {lo hi : Option Int} (ha : SqL K H a xs) (h : New (.lst (cutV xs lo hi)) H Q) : rSlL K (.ref a) lo hi H Q := ⟨a, xs, rfl, ha, fun _ hp => h.go hp⟩
theorem w_app {a : Addr} {xs : List V} (ha : H a = some (.lst xs)) (hz : xs.length < sizeLine) (h : Q .non (upd H a (.lst (xs ++ [v])))) : rAppend (.ref a) [v] H Q := ⟨a, xs, v, rfl, rfl, ha, hz, h⟩
theorem w_tyL {a : Addr} {xs : List V} (ha : SqL K H a xs) : tyV K "list" (.ref a) H := .inl ⟨rfl, xs, ha⟩
theorem w_starts {a b : Str} {R : V → List V → Hp → VK → Prop} (h : Q (.bl (Txt.startswith a b)) H) : ∃ a' b', V.str a = .str a' ∧ [V.str b] = [.str b'] ∧ Q (.bl (Txt.startswith a' b')) H := ⟨a, b, rfl, rfl, h⟩
end
/-! #### rules with the written part told (within comprehensions it must be) -/
section
variable {X : Cx} {K : PySem.W.Frag}
theorem ixL (h : X.K = K := by rfl) : IxR X (rIxL K) := by subst h; exact ix_list
theorem ixT (h : X.K = K := by rfl) : IxR X (rIxT K) := by subst h; exact ix_tup
theorem slL (h : X.K = K := by rfl) : SlR X (rSlL K) := by subst h; exact sl_list
theorem opIn (h : X.K = K := by rfl) : OpR X (compareOp .In) (rIn K false) := by subst h; exact op_in_seq
theorem opNotIn (h : X.K = K := by rfl) : OpR X (compareOp .NotIn) (rIn K true) := by subst h; exact op_notIn_seq
theorem opEqD (hu : X.A.units + 64 < cLine) (h : X.K = K := by rfl) : OpR X (compareOp .Eq) (rEqD K) := by subst h; exact op_eqD hu
theorem opNeD (hu : X.A.units + 64 < cLine) (h : X.K = K := by rfl) : OpR X (compareOp .NotEq) (rNeD K) := by subst h; exact op_neD hu
theorem cr_isi (h : X.K = K := by rfl) : CallR X (.builtin "isinstance") (rIsi K) := by subst h; exact call_isi
theorem cr_isiT (h : X.K = K := by rfl) : CallR X (.builtin "isinstance") (rIsiT K) := by subst h; exact call_isiT
theorem crAll (hc : X.calm = true) (h : X.K = K := by rfl) : CallR X (.builtin "all") (rAll K) := by subst h; exact cr_all hc
theorem crAny (hc : X.calm = true) (h : X.K = K := by rfl) : CallR X (.builtin "any") (rAny K) := by subst h; exact cr_any hc
variable {o e : Expr} {es : List Expr} {to : TE} {t : TA} {name : Str} {apos cpos : Pos} {T id : String} {r : V → List V → Hp → VK → Prop}
theorem pe_bm0K (pa : PlainAttrs T) (slot : Slot T name id) (hty : typeOf (.builtin id) = pure (.type "method_descriptor")) (hm : MtR X id r) (ho : PE X o to) (hK : X.K = K := by rfl)
    (hbase : attributeBase o name X.env (eval o X.env) = eval o X.env := by rfl) (hline : (apos.endLine == cpos.line) = true := by rfl) : PE X (.Call (.Attribute o name apos) [] [] cpos) (tBM0 K T r to) := by
  subst hK; exact pe_bm0 pa slot hty hm ho hbase hline
theorem pe_bmK (pa : PlainAttrs T) (slot : Slot T name id) (hty : typeOf (.builtin id) = pure (.type "method_descriptor")) (hm : MtR X id r) (ho : PE X o to) (ha : PA X (e :: es) t) (hK : X.K = K := by rfl)
    (hbase : attributeBase o name X.env (eval o X.env) = eval o X.env := by rfl)
    (hfew : ((backTo cpos (starEach (e :: es) X.env)).all (fun x => !x.1) && (backToKw cpos (keywordEach [] X.env)).all (fun x => x.1.isSome)
      && decide ((e :: es).length + ([] : List Keyword).length + (if ([] : List Keyword).isEmpty then 0 else 1) < 30)) = true := by rfl)
    (hline : (apos.endLine == cpos.line) = true := by rfl) (hs : starEach (e :: es) X.env = (false, eval e X.env) :: starEach es X.env := by rfl) (hplain : (backTo cpos (starEach es X.env)).any (·.1) = false := by rfl) :
    PE X (.Call (.Attribute o name apos) (e :: es) [] cpos) (tBM K T r to t) := by
  subst hK; exact pe_bm pa slot hty hm ho ha hbase hfew hline hs hplain
end

/-! Kl: ifs by their tests; pure comprehensions over texts, lists, ranges. -/
section
variable {A B : Prop}
theorem iteNT (h : A) : if (!false) = true then A else B := iteT h
theorem iteNF (h : B) : if (!true) = true then A else B := iteF h
theorem ifD {c : Prop} [Decidable c] (h1 : c → A) (h2 : ¬ c → B) : if decide c = true then A else B := by
  by_cases h : c
  · rw [decide_eq_true h]; exact iteT (h1 h)
  · rw [decide_eq_false h]; exact iteF (h2 h)
theorem ifND {c : Prop} [Decidable c] (h1 : ¬ c → A) (h2 : c → B) : if (!decide c) = true then A else B := by
  by_cases h : c
  · rw [decide_eq_true h]; exact iteF (h2 h)
  · rw [decide_eq_false h]; exact iteT (h1 h)
theorem ifB {b : Bool} (h1 : b = true → A) (h2 : b = false → B) : if b = true then A else B := by
  cases b with
  | true => exact iteT (h1 rfl)
  | false => exact iteF (h2 rfl)
theorem ifNB {b : Bool} (h1 : b = false → A) (h2 : b = true → B) : if (!b) = true then A else B := by
  cases b with
  | true => exact iteF (h2 rfl)
  | false => exact iteT (h1 rfl)
end
section
variable {σ : L2.St} {H : Hp} {Q : VK} {K : PySem.W.Frag}
theorem w_lc {wi : TI} {g : TG} {tt : TT} {te : TE} {vs : List Nat} (h : wi σ H fun J H1 => ∀ D, H1 D = none → ∃ W : Nat → Nat → Hp → Prop, (∃ m, W 0 m (upd H1 D (.lst []))) ∧ ∀ i m H, W i m H →
  (J.stop i H ∧ Q (.ref D) H) ∨ (J.go i H ∧ ∃ Nx : Hp → Prop, (∀ H', Nx H' → ∃ m', m' < m ∧ W (i + 1) m' H') ∧ ∀ x H', J.yld i H x H' → g x (wipe σ vs) H' fun σ2 H2 => wipe σ2 vs = wipe σ vs ∧ tt σ2 H2 fun b H3 =>
    if b = true then te σ2 H3 fun y H4 => ∃ acc, H4 D = some (.lst acc) ∧ acc.length < sizeLine ∧ Nx (upd H4 D (.lst (acc ++ [y]))) else Nx H3)) : tLc wi g tt te vs σ H Q := h
theorem w_for {wi : TI} {g : TG} {tb : TS} {D : Ends} (h : wi σ H fun J H1 => ∃ W : Nat → Nat → L2.St → Hp → Prop, (∃ m, W 0 m σ H1) ∧ ∀ i m σ H, W i m σ H →
  (J.stop i H ∧ D.nx σ H) ∨ (J.go i H ∧ ∃ N : L2.St → Hp → Prop, (∀ σ' H', N σ' H' → ∃ m', m' < m ∧ W (i + 1) m' σ' H') ∧ ∀ x H', J.yld i H x H' → g x σ H' fun σ2 H2 => tb { D with nx := N, ct := N, bk := D.nx } σ2 H2)) : tFor wi g tb D σ H := h
variable {R : It → Hp → Prop} {te : TE} {ta : TA}
theorem w_iStr (h : te σ H fun v H1 => ∃ x, v = .str x ∧ R (Its x) H1) : iStr te σ H R := h
theorem w_iList (h : te σ H fun x H1 => ∃ a, x = .ref a ∧ (∃ xs, SqL K H1 a xs) ∧ R (Itl K a) H1) : iList K te σ H R := h
theorem w_iTup (h : te σ H fun x H1 => ∃ a, x = .ref a ∧ (∃ xs, SqT K H1 a xs) ∧ R (Itt K a) H1) : iTup K te σ H R := h
theorem w_iRng1 (h : ta σ H fun vs H1 => ∃ j : Int, vs = [.int j] ∧ -(2 ^ 62) ≤ j ∧ j < 2 ^ 62 ∧ R (Itr 0 j.toNat) H1) : iRng1 ta σ H R := h
theorem w_iRng2 (h : ta σ H fun vs H1 => ∃ i j : Int, vs = [.int i, .int j] ∧ (-(2 ^ 62) ≤ i ∧ i < 2 ^ 62 ∧ -(2 ^ 62) ≤ j ∧ j < 2 ^ 62) ∧ R (Itr i (j - i).toNat) H1) : iRng2 ta σ H R := h
theorem w_exS {P : Str → Prop} {z : Str} (h : P z) : ∃ x, V.str z = V.str x ∧ P x := ⟨z, rfl, h⟩
theorem w_exL {a : Addr} {xs : List V} {P : Addr → Prop} (ha : SqL K H a xs) (h : P a) : ∃ a', V.ref a = V.ref a' ∧ (∃ xs, SqL K H a' xs) ∧ P a' := ⟨a, rfl, ⟨xs, ha⟩, h⟩
theorem w_exT {a : Addr} {xs : List V} {P : Addr → Prop} (ha : SqT K H a xs) (h : P a) : ∃ a', V.ref a = V.ref a' ∧ (∃ xs, SqT K H a' xs) ∧ P a' := ⟨a, rfl, ⟨xs, ha⟩, h⟩
theorem w_exR1 {j : Int} {P : Int → Prop} (h1 : 0 ≤ j) (h2 : j < 2 ^ 62) (h : P j) : ∃ k : Int, [V.int j] = [V.int k] ∧ -(2 ^ 62) ≤ k ∧ k < 2 ^ 62 ∧ P k := ⟨j, rfl, by omega, h2, h⟩
theorem w_exR2 {i j : Int} {P : Int → Int → Prop} (h1 : -(2 ^ 62) ≤ i ∧ i < 2 ^ 62 ∧ -(2 ^ 62) ≤ j ∧ j < 2 ^ 62) (h : P i j) : ∃ k l : Int, [V.int i, V.int j] = [V.int k, V.int l] ∧ (-(2 ^ 62) ≤ k ∧ k < 2 ^ 62 ∧ -(2 ^ 62) ≤ l ∧ l < 2 ^ 62) ∧ P k l := ⟨i, j, rfl, h1, h⟩
end
theorem take_more' {α : Type} : ∀ {l : List α} {i : Nat} {x : α}, l[i]? = some x → l.take (i + 1) = l.take i ++ [x]
  | [], i, x, h => by simp at h
  | a :: l, 0, x, h => by
    have e : a = x := Option.some.inj h
    subst e
    rfl
  | a :: l, i + 1, x, h => by
    have ih := take_more' (l := l) (i := i) (x := x) h
    show a :: l.take (i + 1) = a :: l.take i ++ [x]
    rw [ih]
    rfl
section
variable {g : TG} {tt : TT} {te : TE} {vs : List Nat} {σ : L2.St} {H1 : Hp} {D : Addr} {Qd : Hp → Prop} {K : PySem.W.Frag}
/-- [e for c in z], z a text, e's value by the sign -/
theorem lc_textM {z : Str} (f : Nat → V) (hz : z.length ≤ 1000000) (hD : H1 D = none)
    (hs : ∀ (c : Nat) (H' : Hp) (Ky : V → Hp → Prop), c ∈ z.cps.toList → Same H1 H' → (∀ H4, Same H' H4 → Ky (f c) H4) →
      g (.str ⟨#[c]⟩) (wipe σ vs) H' fun σ2 H2 => wipe σ2 vs = wipe σ vs ∧ te σ2 H2 Ky)
    (hd : ∀ H', Same H1 H' → H' D = some (.lst (z.cps.toList.map f)) → Qd H') :
    ∃ W : Nat → Nat → Hp → Prop, (∃ m, W 0 m (upd H1 D (.lst []))) ∧ ∀ i m H, W i m H →
      ((Its z).stop i H ∧ Qd H) ∨ ((Its z).go i H ∧ ∃ Nx : Hp → Prop, (∀ H', Nx H' → ∃ m', m' < m ∧ W (i + 1) m' H') ∧ ∀ x H', (Its z).yld i H x H' → g x (wipe σ vs) H' fun σ2 H2 => wipe σ2 vs = wipe σ vs ∧ tYes σ2 H2 fun b H3 =>
        if b = true then te σ2 H3 fun y H4 => ∃ acc, H4 D = some (.lst acc) ∧ acc.length < sizeLine ∧ Nx (upd H4 D (.lst (acc ++ [y]))) else Nx H3) := by
  refine lc_it walk_str (fun i H => Same H1 H ∧ H D = some (.lst ((z.cps.toList.take i).map f))) ⟨same_upd hD, by rw [upd_same]; simp⟩ (fun _ _ _ _ => trivial) ?_ ?_
  · rintro i x H H' hi ⟨s1, eD⟩ ⟨rfl, c, hc, rfl⟩
    have hc' : z.cps.toList[i]? = some c := by simpa using hc
    have key := hs c H' (fun y H4 => ∃ acc, H4 D = some (.lst acc) ∧ acc.length < sizeLine ∧ (Same H1 (upd H4 D (.lst (acc ++ [y]))) ∧ (upd H4 D (.lst (acc ++ [y]))) D = some (.lst ((z.cps.toList.take (i + 1)).map f))))
      (List.mem_of_getElem? hc') s1 (fun H4 s4 => ⟨_, s4 _ _ eD, ?_, same_put (s1.trans s4) hD, ?_⟩)
    · exact key
    · have h2 : (sizeLine : Nat) = 16777216 := sizeLine_eq
      have h3 : z.length = z.cps.toList.length := by simp [Str.length]
      rw [List.length_map, List.length_take]
      omega
    · rw [upd_same, take_more' hc', List.map_append]
      rfl
  · rintro H ⟨s1, eD⟩
    refine hd H s1 ?_
    rw [eD]
    congr 2
    rw [List.take_of_length_le]
    simp
end
section
variable {g : TG} {tt : TT} {te : TE} {vs : List Nat} {σ : L2.St} {H1 : Hp} {D : Addr} {Qd : Hp → Prop} {K : PySem.W.Frag} {J : It} {G : Hp → Prop}
/-- [e for x in xs if t], a list or a tuple that stands still; what a turn gives, by the item -/
theorem lc_seqF {xs : List V} (w : Walk J xs.length G (YAt xs)) (f : V → Option V) (hz : xs.length ≤ 1000000) (hD : H1 D = none) (hG : ∀ H, Same H1 H → G H)
    (hs : ∀ (x : V) (H' : Hp) (Ky : V → Hp → Prop) (Kn : Hp → Prop), x ∈ xs → Same H1 H' → (∀ y H4, Same H' H4 → f x = some y → Ky y H4) → (∀ H3, Same H' H3 → f x = none → Kn H3) →
      g x (wipe σ vs) H' fun σ2 H2 => wipe σ2 vs = wipe σ vs ∧ tt σ2 H2 fun b H3 => if b = true then te σ2 H3 Ky else Kn H3)
    (hd : ∀ H', Same H1 H' → H' D = some (.lst (xs.filterMap f)) → Qd H') :
    ∃ W : Nat → Nat → Hp → Prop, (∃ m, W 0 m (upd H1 D (.lst []))) ∧ ∀ i m H, W i m H →
      (J.stop i H ∧ Qd H) ∨ (J.go i H ∧ ∃ Nx : Hp → Prop, (∀ H', Nx H' → ∃ m', m' < m ∧ W (i + 1) m' H') ∧ ∀ x H', J.yld i H x H' → g x (wipe σ vs) H' fun σ2 H2 => wipe σ2 vs = wipe σ vs ∧ tt σ2 H2 fun b H3 =>
        if b = true then te σ2 H3 fun y H4 => ∃ acc, H4 D = some (.lst acc) ∧ acc.length < sizeLine ∧ Nx (upd H4 D (.lst (acc ++ [y]))) else Nx H3) := by
  refine lc_pure w (fun i => (xs[i]?).bind f) hz hD hG (fun i H x H' y => by obtain ⟨e, _⟩ := y; rw [e]; exact Same.refl H) ?_ (fun H' s e => hd H' s (by rw [e, fm_bind]))
  rintro i x H H' Ky Kn hi s1 ⟨rfl, hx⟩ ky kn
  refine hs x H' Ky Kn (List.mem_of_getElem? hx) s1 (fun y H4 s4 e => ky y H4 s4 ?_) (fun H3 s3 e => kn H3 s3 ?_)
  · rw [hx]; exact e
  · rw [hx]; exact e
/-- the same without a test -/
theorem lc_seqM {xs : List V} (w : Walk J xs.length G (YAt xs)) (f : V → V) (hz : xs.length ≤ 1000000) (hD : H1 D = none) (hG : ∀ H, Same H1 H → G H)
    (hs : ∀ (x : V) (H' : Hp) (Ky : V → Hp → Prop), x ∈ xs → Same H1 H' → (∀ H4, Same H' H4 → Ky (f x) H4) →
      g x (wipe σ vs) H' fun σ2 H2 => wipe σ2 vs = wipe σ vs ∧ te σ2 H2 Ky)
    (hd : ∀ H', Same H1 H' → H' D = some (.lst (xs.map f)) → Qd H') :
    ∃ W : Nat → Nat → Hp → Prop, (∃ m, W 0 m (upd H1 D (.lst []))) ∧ ∀ i m H, W i m H →
      (J.stop i H ∧ Qd H) ∨ (J.go i H ∧ ∃ Nx : Hp → Prop, (∀ H', Nx H' → ∃ m', m' < m ∧ W (i + 1) m' H') ∧ ∀ x H', J.yld i H x H' → g x (wipe σ vs) H' fun σ2 H2 => wipe σ2 vs = wipe σ vs ∧ tYes σ2 H2 fun b H3 =>
        if b = true then te σ2 H3 fun y H4 => ∃ acc, H4 D = some (.lst acc) ∧ acc.length < sizeLine ∧ Nx (upd H4 D (.lst (acc ++ [y]))) else Nx H3) := by
  refine lc_seqF w (fun x => some (f x)) hz hD hG (fun x H' Ky Kn hx s1 ky kn => ?_) (fun H' s e => hd H' s (by rw [e]; simp))
  have key := hs x H' Ky hx s1 (fun H4 s4 => ky _ H4 s4 rfl)
  exact key
/-- over a range, without a test -/
theorem lc_rngM {lo : Int} {n : Nat} (f : Nat → V) (hz : n ≤ 1000000) (hD : H1 D = none)
    (hs : ∀ (i : Nat) (H' : Hp) (Ky : V → Hp → Prop), i < n → Same H1 H' → (∀ H4, Same H' H4 → Ky (f i) H4) →
      g (.int (lo + i)) (wipe σ vs) H' fun σ2 H2 => wipe σ2 vs = wipe σ vs ∧ te σ2 H2 Ky)
    (hd : ∀ H', Same H1 H' → H' D = some (.lst ((List.range n).map f)) → Qd H') :
    ∃ W : Nat → Nat → Hp → Prop, (∃ m, W 0 m (upd H1 D (.lst []))) ∧ ∀ i m H, W i m H →
      ((Itr lo n).stop i H ∧ Qd H) ∨ ((Itr lo n).go i H ∧ ∃ Nx : Hp → Prop, (∀ H', Nx H' → ∃ m', m' < m ∧ W (i + 1) m' H') ∧ ∀ x H', (Itr lo n).yld i H x H' → g x (wipe σ vs) H' fun σ2 H2 => wipe σ2 vs = wipe σ vs ∧ tYes σ2 H2 fun b H3 =>
        if b = true then te σ2 H3 fun y H4 => ∃ acc, H4 D = some (.lst acc) ∧ acc.length < sizeLine ∧ Nx (upd H4 D (.lst (acc ++ [y]))) else Nx H3) := by
  refine lc_pure walk_range (fun i => some (f i)) hz hD (fun _ _ => trivial) (fun i H x H' y => by obtain ⟨e, _⟩ := y; rw [e]; exact Same.refl H) ?_ (fun H' s e => hd H' s (by rw [e, fm_fn]))
  rintro i x H H' Ky Kn hi s1 ⟨rfl, rfl⟩ ky kn
  have key := hs i H' Ky hi s1 (fun H4 s4 => ky _ H4 s4 rfl)
  exact key
end
theorem w_wipe {σ σ' : L2.St} {vs : List Nat} {A : Prop} (e : wipe σ' vs = wipe σ vs) (h : A) : wipe σ' vs = wipe σ vs ∧ A := ⟨e, h⟩
section
variable {g : TG} {tt : TT} {te : TE} {vs : List Nat} {σ : L2.St} {H1 : Hp} {D : Addr} {Qd : Hp → Prop} {J : It} {n : Nat} {G : Hp → Prop} {Y : Nat → Hp → V → Hp → Prop}
/-- a comprehension whose turns change the heap: S by the turn, the list so far and the heap, whatever the new list's place D holds -/
theorem lc_st (w : Walk J n G Y) (S : Nat → List V → Hp → Prop) (hn : n ≤ 1000000) (hst : ∀ i acc H H', Kp [D] H H' → S i acc H → S i acc H') (h0 : S 0 [] (upd H1 D (.lst []))) (hG : ∀ i acc H, S i acc H → G H)
    (hs : ∀ i x acc H H' (Ky : V → Hp → Prop) (Kn : Hp → Prop), i < n → acc.length ≤ i → S i acc H → H D = some (.lst acc) → Y i H x H' → (∀ y H4, H4 D = some (.lst acc) → S (i + 1) (acc ++ [y]) H4 → Ky y H4) → (∀ H3, H3 D = some (.lst acc) → S (i + 1) acc H3 → Kn H3) →
      g x (wipe σ vs) H' fun σ2 H2 => wipe σ2 vs = wipe σ vs ∧ tt σ2 H2 fun b H3 => if b = true then te σ2 H3 Ky else Kn H3)
    (hd : ∀ acc H, acc.length ≤ n → H D = some (.lst acc) → S n acc H → Qd H) :
    ∃ W : Nat → Nat → Hp → Prop, (∃ m, W 0 m (upd H1 D (.lst []))) ∧ ∀ i m H, W i m H →
      (J.stop i H ∧ Qd H) ∨ (J.go i H ∧ ∃ Nx : Hp → Prop, (∀ H', Nx H' → ∃ m', m' < m ∧ W (i + 1) m' H') ∧ ∀ x H', J.yld i H x H' → g x (wipe σ vs) H' fun σ2 H2 => wipe σ2 vs = wipe σ vs ∧ tt σ2 H2 fun b H3 =>
        if b = true then te σ2 H3 fun y H4 => ∃ acc, H4 D = some (.lst acc) ∧ acc.length < sizeLine ∧ Nx (upd H4 D (.lst (acc ++ [y]))) else Nx H3) := by
  refine lc_it w (fun i H => ∃ acc, acc.length ≤ i ∧ S i acc H ∧ H D = some (.lst acc)) ⟨[], Nat.le_refl _, h0, upd_same⟩ (fun i H _ ⟨acc, _, h, _⟩ => hG i acc H h) ?_ (fun H ⟨acc, hl, h, e⟩ => hd acc H hl e h)
  rintro i x H H' hi ⟨acc, hl, hS, e⟩ y
  refine hs i x acc H H' _ _ hi hl hS e y (fun v H4 e4 h4 => ?_) (fun H3 e3 h3 => ⟨acc, by omega, h3, e3⟩)
  have h2 : (sizeLine : Nat) = 16777216 := sizeLine_eq
  exact ⟨acc, e4, by omega, acc ++ [v], by simp; omega, hst _ _ _ _ (kp_upd List.mem_cons_self) h4, upd_same⟩
end

/-! Kd: data compared at any depth, flat data; places of lists. -/
def fD : V → PyData
  | .non => .none
  | .bl b => .bool b
  | .int i => .int i
  | .str x => .str x
  | _ => .none
/-- a flat value whose text, if it is one, has code points that the model counts -/
def okF : V → Bool
  | .non => true
  | .bl _ => true
  | .int _ => true
  | .str x => PyData.strOk x
  | _ => false
section
variable {K : PySem.W.Frag} {H : Hp}
theorem dp_flat {v : V} (h : okF v = true) : Dp K H v (fD v) := by
  cases v with
  | non => exact .non
  | bl b => exact .bl b
  | int i => exact .int i
  | str x => exact .str x
  | _ => cases h
theorem dpAll_flat : ∀ {xs : List V}, xs.all okF = true → DpAll K H xs (xs.map fD)
  | [], _ => .nil
  | x :: xs, h => by
    rw [List.all_cons, Bool.and_eq_true] at h
    exact .cons (dp_flat h.1) (dpAll_flat h.2)
theorem canLay_flat {v : V} (h : okF v = true) : (fD v).canLay0 = true := by
  cases v with
  | str x => simpa [fD, PyData.canLay0, okF] using h
  | _ => first | rfl | cases h
theorem canLayAll_flat : ∀ {xs : List V}, xs.all okF = true → PyData.canLayAll0 (xs.map fD) = true
  | [], _ => rfl
  | x :: xs, h => by
    rw [List.all_cons, Bool.and_eq_true] at h
    simp only [List.map_cons, PyData.canLayAll0, canLay_flat h.1, canLayAll_flat h.2, Bool.and_self]
theorem depth_flat (v : V) : (fD v).depth = 0 := by
  cases v <;> simp [fD, PyData.depth]
theorem depthAll_flat : ∀ (xs : List V), PyData.depthAll (xs.map fD) = 0
  | [] => rfl
  | x :: xs => by simp [PyData.depthAll, depth_flat, depthAll_flat xs]
theorem shaped_flat {v : V} (h : okF v = true) : SeqAt.shaped (fD v) = true := by
  unfold SeqAt.shaped
  rw [canLay_flat h, depth_flat]
  rfl
theorem shaped_lst {xs : List V} (h : xs.all okF = true) : SeqAt.shaped (.list (xs.map fD)) = true := by
  unfold SeqAt.shaped
  simp only [PyData.canLay0, canLayAll_flat h, PyData.depth, depthAll_flat]
  decide
theorem shaped_tup {xs : List V} (h : xs.all okF = true) : SeqAt.shaped (.tuple (xs.map fD)) = true := by
  unfold SeqAt.shaped
  simp only [PyData.canLay0, canLayAll_flat h, PyData.depth, depthAll_flat]
  decide
theorem ints_ok (ns : List Int) : (ns.map V.int).all okF = true := by
  simp [List.all_map, okF]
theorem bls_ok (ns : List Bool) : (ns.map V.bl).all okF = true := by
  simp [List.all_map, okF]
/-- two flat lists or tuples compared -/
theorem eqvAll_flat : ∀ {xs ys : List V}, xs.all okF = true → ys.all okF = true → (∀ x ∈ xs, isS x = true ∨ ∃ i, x = .int i) → (∀ x ∈ ys, isS x = true ∨ ∃ i, x = .int i) → PyData.eqvAll (xs.map fD) (ys.map fD) = decide (xs = ys)
  | [], [], _, _, _, _ => rfl
  | [], y :: ys, _, _, _, _ => by simp [PyData.eqvAll]
  | x :: xs, [], _, _, _, _ => by simp [PyData.eqvAll]
  | x :: xs, y :: ys, hx, hy, tx, ty => by
    rw [List.all_cons, Bool.and_eq_true] at hx hy
    have ih := eqvAll_flat (xs := xs) (ys := ys) hx.2 hy.2 (fun z hz => tx z (List.mem_cons_of_mem _ hz)) (fun z hz => ty z (List.mem_cons_of_mem _ hz))
    simp only [List.map_cons, PyData.eqvAll, ih]
    have e : PyData.eqv (fD x) (fD y) = decide (x = y) := by
      rcases tx x List.mem_cons_self with sx | ⟨i, rfl⟩
      · obtain ⟨a, rfl⟩ := isS_iff.mp sx
        rcases ty y List.mem_cons_self with sy | ⟨j, rfl⟩
        · obtain ⟨b, rfl⟩ := isS_iff.mp sy
          show (a == b) = _
          by_cases q : a = b <;> simp [q]
        · simp [fD, PyData.eqv]
      · rcases ty y List.mem_cons_self with sy | ⟨j, rfl⟩
        · obtain ⟨b, rfl⟩ := isS_iff.mp sy
          simp [fD, PyData.eqv]
        · show (i == j) = _
          by_cases q : i = j <;> simp [q]
    rw [e]
    by_cases q1 : x = y <;> by_cases q2 : xs = ys <;> simp [q1, q2]
theorem eqv_nil (ds : List PyData) : PyData.eqv (.list ds) (.list []) = ds.isEmpty := by
  cases ds <;> rfl
variable {Q : VK}
/-- xs != [] -/
theorem w_neNil {a b : Addr} {xs : List V} (h : xs.all okF = true) (ha : SqL K H a xs) (hb : SqL K H b []) (q : Q (.bl (!xs.isEmpty)) H) : rNeD K (.ref a) (.ref b) H Q := by
  refine ⟨_, _, .lst ha (dpAll_flat h), .lst hb .nil, shaped_lst h, (by decide +kernel), ?_⟩
  rw [eqv_nil, List.isEmpty_map]
  exact q
/-- xs == [] -/
theorem w_eqNil {a b : Addr} {xs : List V} (h : xs.all okF = true) (ha : SqL K H a xs) (hb : SqL K H b []) (q : Q (.bl xs.isEmpty) H) : rEqD K (.ref a) (.ref b) H Q := by
  refine ⟨_, _, .lst ha (dpAll_flat h), .lst hb .nil, shaped_lst h, (by decide +kernel), ?_⟩
  rw [eqv_nil, List.isEmpty_map]
  exact q
/-- an item at a reckoned place within the list -/
theorem at_in {α : Type} {xs : List α} {i : Int} (h0 : 0 ≤ i) (h1 : i < xs.length) : ∃ v, atI xs i = some v ∧ v ∈ xs ∧ xs[i.toNat]? = some v := by
  have hl : i.toNat < xs.length := by omega
  refine ⟨xs[i.toNat], ?_, List.getElem_mem hl, by simp [hl]⟩
  have this : xs[i.toNat]? = some xs[i.toNat] := by simp [hl]
  have r := atI_nat this
  have e : ((i.toNat : Nat) : Int) = i := by omega
  rw [e] at r
  exact r
end


/-! Kt: texts. -/
def rJoin (K : PySem.W.Frag) : V → List V → Hp → VK → Prop := fun x xs H Q => ∃ a p, ∃ ys : List Str, x = .str a ∧ xs = [.ref p] ∧ (SqL K H p (ys.map V.str) ∨ SqT K H p (ys.map V.str)) ∧
  (ys.map (·.length)).sum + ys.length * a.length ≤ 16777216 ∧ Q (.str (Txt.join a ys)) H
theorem mt_joinN {X : Cx} {K : PySem.W.Frag} (h : X.K = K := by rfl) : MtR X "str.join" (rJoin K) := by subst h; exact mt_join
theorem pe_joinN {X : Cx} {o e : Expr} {to te : TE} {apos pos : Pos} {K : PySem.W.Frag} (ho : PE X o to) (he : PE X e te) (hK : X.K = K := by rfl) (hs : starEach [e] X.env = [(false, eval e X.env)] := by rfl) (hbase : attributeBase o "join" X.env (eval o X.env) = eval o X.env := by rfl) (hline : (apos.endLine == pos.line) = true := by rfl) :
    PE X (.Call (.Attribute o "join" apos) [e] [] pos) (tM1 (rJoin K) to te) := pe_m1 PySem.F.slot_str_join PySem.F.type_str_join (mt_joinN hK) ho he hs hbase hline
def rStarts : V → List V → Hp → VK → Prop := fun x xs H Q => ∃ a b, x = .str a ∧ xs = [.str b] ∧ Q (.bl (Txt.startswith a b)) H
theorem mt_startsN {X : Cx} : MtR X "str.startswith" rStarts := mt_startswith
section
variable {H : Hp} {Q : VK} {K : PySem.W.Frag}
theorem w_join {a : Str} {p : Addr} {ys : List Str} (hp : SqL K H p (ys.map V.str)) (hz : (ys.map (·.length)).sum + ys.length * a.length ≤ 16777216) (h : Q (.str (Txt.join a ys)) H) : rJoin K (.str a) [.ref p] H Q := ⟨a, p, ys, rfl, rfl, .inl hp, hz, h⟩
theorem w_startsN {a b : Str} (h : Q (.bl (Txt.startswith a b)) H) : rStarts (.str a) [.str b] H Q := ⟨a, b, rfl, rfl, h⟩
end
theorem joinL_nil : ∀ parts : List (List Nat), joinL [] parts = parts.flatten
  | [] => rfl
  | [x] => by simp [joinL]
  | x :: y :: r => by
    have ih := joinL_nil (y :: r)
    simp only [joinL, List.flatten_cons] at ih ⊢
    simp [ih]
theorem tl_join0 (ys : List Str) : tl (Txt.join "" ys) = (ys.map tl).flatten := by
  rw [join_eq, tl_join, show tl (Str.ofString "") = [] from rfl, joinL_nil]
theorem len_join0 (ys : List Str) : (Txt.join "" ys).length = (ys.map (·.length)).sum := by
  rw [len_tl, tl_join0, List.length_flatten, List.map_map]
  rfl
/-- texts of one sign each -/
theorem sum_ones : ∀ {ys : List Str}, (∀ y ∈ ys, y.length = 1) → (ys.map (·.length)).sum = ys.length
  | [], _ => rfl
  | y :: r, h => by
    rw [List.map_cons, List.sum_cons, h y List.mem_cons_self, sum_ones fun z hz => h z (List.mem_cons_of_mem _ hz), List.length_cons]
    omega
theorem list_str_of {acc : List V} (h : ∀ v ∈ acc, ∃ s : Str, v = .str s ∧ s.length = 1) : ∃ ys : List Str, acc = ys.map V.str ∧ ∀ y ∈ ys, y.length = 1 := by
  induction acc with
  | nil => exact ⟨[], rfl, fun _ h => nomatch h⟩
  | cons v r ih =>
    obtain ⟨s, e, hs⟩ := h v List.mem_cons_self
    obtain ⟨ys, e2, h2⟩ := ih fun w hw => h w (List.mem_cons_of_mem _ hw)
    exact ⟨s :: ys, by rw [e, e2]; rfl, fun y hy => by rcases List.mem_cons.mp hy with rfl | hy; exact hs; exact h2 y hy⟩
theorem cutS_le (z : Str) (lo hi : Option Int) : (cutS z lo hi).length ≤ z.length := cutS_length z lo hi
theorem cutS_mem {z : Str} {lo hi : Option Int} {c : Nat} (h : c ∈ (cutS z lo hi).cps.toList) : c ∈ z.cps.toList := by
  unfold cutS at h
  simp only at h
  exact List.mem_of_mem_drop (List.mem_of_mem_take h)
theorem strOk_iff {x : Str} : PyData.strOk x = true ↔ ∀ c ∈ x.cps.toList, c < 0x110000 := by
  unfold PyData.strOk
  rw [← Array.all_toList, List.all_eq_true]
  simp
theorem okS_cut {z : Str} (h : okS z) (lo hi : Option Int) : okS (cutS z lo hi) :=
  ⟨Nat.le_trans (cutS_le z lo hi) h.1, strOk_iff.mpr fun c hc => strOk_iff.mp h.2 c (cutS_mem hc)⟩
theorem len_app (a b : Str) : (a ++ b).length = a.length + b.length := by
  rw [len_tl, tl_append, List.length_append, ← len_tl, ← len_tl]
theorem okS_app {a b : Str} (ha : okS a) (hb : okS b) (h : a.length + b.length ≤ 20000) : okS (a ++ b) := by
  refine ⟨by rw [len_app]; exact h, strOk_iff.mpr fun c hc => ?_⟩
  have e : (a ++ b).cps.toList = a.cps.toList ++ b.cps.toList := tl_append a b
  rw [e] at hc
  rcases List.mem_append.mp hc with hc | hc
  · exact strOk_iff.mp ha.2 c hc
  · exact strOk_iff.mp hb.2 c hc
theorem okS_sign {z : Str} (h : okS z) {c : Nat} (hc : c ∈ z.cps.toList) : okS ⟨#[c]⟩ := by
  refine ⟨by show 1 ≤ 20000; decide, strOk_iff.mpr fun d hd => ?_⟩
  have e : d = c := by simpa using hd
  rw [e]
  exact strOk_iff.mp h.2 c hc

/-! Kk: dicts; comprehensions whose items are told by a relation. -/
theorem all_putK {Pr : Key → V → Prop} {kvs : List (Key × V)} {k : Key} {v : V} (h : ∀ kv ∈ kvs, Pr kv.1 kv.2) (hv : Pr k v) : ∀ kv ∈ putK kvs k v, Pr kv.1 kv.2 := by
  intro kv hm
  unfold putK at hm
  split at hm
  · obtain ⟨q, hq, e⟩ := List.mem_map.mp hm
    by_cases z : q.1 = k
    · rw [if_pos z] at e
      subst e
      show Pr q.1 v
      rw [z]; exact hv
    · rw [if_neg z] at e
      subst e
      exact h _ hq
  · rcases List.mem_append.mp hm with hm | hm
    · exact h _ hm
    · obtain rfl := List.mem_singleton.mp hm
      exact hv
theorem all_mergeK {Pr : Key → V → Prop} : ∀ {kvs acc : List (Key × V)}, (∀ kv ∈ kvs, Pr kv.1 kv.2) → (∀ kv ∈ acc, Pr kv.1 kv.2) → ∀ kv ∈ mergeK acc kvs, Pr kv.1 kv.2
  | [], _, _, h => h
  | (k, v) :: r, acc, h1, h2 => by
    show ∀ kv ∈ mergeK (putK acc k v) r, Pr kv.1 kv.2
    exact all_mergeK (fun kv hm => h1 kv (List.mem_cons_of_mem _ hm)) (all_putK h2 (h1 (k, v) List.mem_cons_self))
section
variable {H : Hp} {Q : VK} {K : PySem.W.Frag}
theorem w_dictP {a : Addr} {ps : List Addr} (kvs : List (Key × V)) (ha : SqL K H a (ps.map V.ref)) (hp : Paired (fun p kv => SqT K H p [kV kv.1, kv.2]) ps kvs) (h : New (.dK (mergeK [] kvs)) H Q) : rDictP K [.ref a] H Q :=
  ⟨a, ps, kvs, rfl, ha, hp, fun _ hp => h.go hp⟩
end
theorem paired_of {α β : Type} {F : α → β → Prop} : ∀ {xs : List α} {ys : List β}, xs.length = ys.length → (∀ (i : Nat) x y, xs[i]? = some x → ys[i]? = some y → F x y) → Paired F xs ys
  | [], [], _, _ => .nil
  | [], _ :: _, e, _ => by simp at e
  | _ :: _, [], e, _ => by simp at e
  | x :: xs, y :: ys, e, h => .cons (h 0 x y rfl rfl) (paired_of (by simpa using e) fun i x' y' h1 h2 => h (i + 1) x' y' (by simpa using h1) (by simpa using h2))
theorem same_kp1 {H H1 H2 : Hp} {D : Addr} (s : Same H H1) (hD : H D = none) (k : Kp [D] H1 H2) : Same H H2 := fun b o h => kp_at k (by simpa using ne_of_none h hD) (s b o h)
section
variable {g : TG} {tt : TT} {te : TE} {vs : List Nat} {σ : L2.St} {H1 : Hp} {D : Addr} {Qd : Hp → Prop} {J : It} {n : Nat} {G : Hp → Prop} {Y : Nat → Hp → V → Hp → Prop}
/-- a pure comprehension without a test, each item told by R (its new parts stand apart from D) -/
theorem lc_rel (w : Walk J n G Y) (R : Nat → V → Hp → Prop) (hR : ∀ i v H H', Same H H' → R i v H → R i v H') (hn : n ≤ 1000000) (hD : H1 D = none) (hG : ∀ H, Same H1 H → G H) (hY : ∀ i H x H', Y i H x H' → Same H H')
    (hs : ∀ i x H H' (Ky : V → Hp → Prop), i < n → Same H1 H → (∃ o, H D = some o) → Y i H x H' → (∀ y H4, Same H' H4 → R i y (wo [D] H4) → Ky y H4) →
      g x (wipe σ vs) H' fun σ2 H2 => wipe σ2 vs = wipe σ vs ∧ te σ2 H2 Ky)
    (hd : ∀ ys H, ys.length = n → (∀ (i : Nat) v, ys[i]? = some v → R i v H) → Same H1 H → H D = some (.lst ys) → Qd H) :
    ∃ W : Nat → Nat → Hp → Prop, (∃ m, W 0 m (upd H1 D (.lst []))) ∧ ∀ i m H, W i m H →
      (J.stop i H ∧ Qd H) ∨ (J.go i H ∧ ∃ Nx : Hp → Prop, (∀ H', Nx H' → ∃ m', m' < m ∧ W (i + 1) m' H') ∧ ∀ x H', J.yld i H x H' → g x (wipe σ vs) H' fun σ2 H2 => wipe σ2 vs = wipe σ vs ∧ tYes σ2 H2 fun b H3 =>
        if b = true then te σ2 H3 fun y H4 => ∃ acc, H4 D = some (.lst acc) ∧ acc.length < sizeLine ∧ Nx (upd H4 D (.lst (acc ++ [y]))) else Nx H3) := by
  refine lc_st w (fun i acc H => Same H1 H ∧ acc.length = i ∧ ∀ (j : Nat) v, acc[j]? = some v → R j v (wo [D] H)) hn ?_ ⟨same_upd hD, rfl, fun j v h => by simp at h⟩ (fun _ _ H h => hG H h.1) ?_ ?_
  · rintro i acc H H' kd ⟨s1, hl, h⟩
    exact ⟨same_kp1 s1 hD kd, hl, fun j v e => hR _ _ _ _ kd (h j v e)⟩
  · rintro i x acc H H' Ky Kn hi _ ⟨s1, hl, h⟩ eD y ky kn
    have s2 := hY _ _ _ _ y
    have key := hs i x H H' Ky hi s1 ⟨_, eD⟩ y (fun v H4 s4 r => ky v H4 (s4 _ _ (s2 _ _ eD)) ⟨s1.trans (s2.trans s4), by simp [hl], fun j u e => ?_⟩)
    · exact key
    · have st := same_wo (s2.trans s4) [D]
      by_cases q : j < acc.length
      · rw [List.getElem?_append_left q] at e
        exact hR _ _ _ _ st (h j u e)
      · rw [List.getElem?_append_right (by omega)] at e
        have z : j - acc.length = 0 := by
          cases z : j - acc.length with
          | zero => rfl
          | succ k => rw [z] at e; simp at e
        rw [z] at e
        have e' : v = u := Option.some.inj e
        subst e'
        have : j = i := by omega
        subst this
        exact r
  · rintro acc H _ e ⟨s1, hl, h⟩
    exact hd acc H hl (fun j v q => hR _ _ _ _ (wo_same [D] H) (h j v q)) s1 e
end
def adrOf : V → Addr
  | .ref a => a
  | _ => 0
/-- items that are all addresses -/
theorem refs_of {ys : List V} (h : ∀ v ∈ ys, ∃ T, v = V.ref T) : ys = (ys.map adrOf).map V.ref := by
  induction ys with
  | nil => rfl
  | cons v r ih =>
    obtain ⟨T, rfl⟩ := h v List.mem_cons_self
    rw [List.map_cons, List.map_cons, ← ih fun w hw => h w (List.mem_cons_of_mem _ hw)]
    rfl
/-- a list of pairs, each a tuple of a key and a value, in the words of dict(..) -/
theorem pairs_ok {K : PySem.W.Frag} {H : Hp} {ys : List V} {kvs : List (Key × V)} (hl : ys.length = kvs.length) (h : ∀ (i : Nat) v kv, ys[i]? = some v → kvs[i]? = some kv → ∃ T, v = V.ref T ∧ H T = some (.tup [kV kv.1, kv.2])) :
    ys = (ys.map adrOf).map V.ref ∧ Paired (fun p (kv : Key × V) => SqT K H p [kV kv.1, kv.2]) (ys.map adrOf) kvs := by
  refine ⟨refs_of fun v hv => ?_, paired_of (by rw [List.length_map]; exact hl) fun i x kv h1 h2 => ?_⟩
  · obtain ⟨i, hi, e⟩ := List.getElem_of_mem hv
    have h1 : ys[i]? = some v := by rw [← e]; simp [hi]
    have hi2 : i < kvs.length := by omega
    obtain ⟨T, e, _⟩ := h i v kvs[i] h1 (by simp [hi2])
    exact ⟨T, e⟩
  · rw [List.getElem?_map] at h1
    cases e : ys[i]? with
    | none => rw [e] at h1; cases h1
    | some v =>
      rw [e] at h1
      obtain ⟨T, rfl, eT⟩ := h i v kv e h2
      have h1' : adrOf (.ref T) = x := Option.some.inj h1
      subst h1'
      exact .of eT

/-! R1: rules of our own: the values of a dict as a list. -/
def tListVals (te : TE) : TE := fun σ H Q => te σ H fun x H1 => ∃ d kvs, x = .ref d ∧ H1 d = some (.dK kvs) ∧ New (.lst (kvs.map (·.2))) H1 Q
section
variable {X : Cx} {e : Expr} {te : TE} {p apos cpos pos : Pos}
theorem vals_at : ∀ {us : List Value} {vs : List (Key × Value)}, us.length = vs.length → (∀ (j : Nat) (v : Value), us[j]? = some v → ∃ k, vs[j]? = some (k, v)) → us = vs.map (·.2)
  | [], [], _, _ => rfl
  | [], _ :: _, h, _ => by simp at h
  | _ :: _, [], h, _ => by simp at h
  | u :: us, q :: vs, h, f => by
    obtain ⟨k, ek⟩ := f 0 u rfl
    have ek' : q = (k, u) := Option.some.inj ek
    rw [List.map_cons, ek', ← vals_at (us := us) (vs := vs) (by simpa using h) fun j v e => f (j + 1) v (by simpa using e)]
theorem kv_vals : ∀ {kvs : List (Key × V)} {vs : List (Key × Value)}, KV kvs vs → Vals (kvs.map (·.2)) (vs.map (·.2))
  | _, _, .nil => .nil
  | _, _, .cons a t => .cons a.2 (kv_vals t)
theorem boot_list' : bootBuiltins "list" = some (.type "list") := by decide +kernel
theorem pe_listVals (hc : X.calm = true) (hm : X.mg "list" = none) (he : PE X e te) (hg : Gl X "list" := by rfl)
    (hb : attributeBase e "values" X.env (eval e X.env) = eval e X.env := by rfl) (hl : (apos.endLine == cpos.line) = true := by rfl)
    (hs : starEach [.Call (.Attribute e "values" apos) [] [] cpos] X.env = (false, eval (.Call (.Attribute e "values" apos) [] [] cpos) X.env) :: starEach [] X.env := by rfl) :
    PE X (.Call (.Name "list" p) [.Call (.Attribute e "values" apos) [] [] cpos] [] pos) (tListVals te) := by
  refine ⟨fun pins s σ H Q I hq => ?_⟩
  refine wpAny_Call_Name_kw (ld_blt I hg hm boot_list' ?_)
  refine PyProof.Rows.callWith_type1 ?_ hs rfl
  rw [hs]
  refine Calls.spliced_cons (wpAny_Call_method (T := "dict") (id := "dict.values") hb rfl hl F.plainAttrs_dict F.slot_dict_values F.type_dict_values (thn (he.run pins s σ H _ I hq) fun u s1 hh => ?_))
  obtain ⟨x, H1, I1, rx, d, kvs, ex, hd, q⟩ := hh
  subst ex
  obtain rfl : u = Value.ref d := rx
  obtain ⟨hz, lo, vs, kv, hdo⟩ := I1.hok d _ hd
  obtain ⟨ep, hat⟩ := hdo.dictAt
  have ln : kvs.length = vs.length := Paired.length kv
  refine ⟨hdo.typeIs, hdo.mapOf.noDict, ?_⟩
  show wpAny _ _ (callWith cpos (.builtin "dict.values") [.ref d] [] []) _ X.xe s1
  have I2 : Inv X pins σ H1 { s1 with heap := s1.heap.push { cls := .type "dict_values", data := .fields #[.ref d] } } := I1.kept (t' := s1.toks) fun b ob z => Heap.get?_push_of_some _ z
  refine method_meetsIn F.slot_dict_values F.entry_dict_values rfl (PySem.evalArgs_none ⟨rfl, hdo.typeIs, F.args_dict_values_1 _, _, meets_dict_values (mixKind X.prog X.w) d lo, ⟨vs, hdo⟩, Calls.spliced_nil ?_⟩)
  refine PySem.W.kdl_call (PySem.W.kdl_values (knd := mixKind X.prog X.w) (kvs := vs) (ep := ep)) (I1.ok.hd hc) ⟨⟨_, Heap.get?_push_size _ rfl, rfl, rfl⟩, hat.push _⟩ (by omega) fun h' tk acc c' hk hD hacc => ?_
  have ev : acc.toList = vs.map (·.2) := vals_at (by rw [Array.length_toList]; exact hacc.1) fun j v e => hacc.2 j v (by rw [← Array.getElem?_toList]; exact e)
  have new := I2.hok.fresh (Nat.le_refl (s1.heap.push { cls := .type "dict_values", data := .fields #[.ref d] }).objs.size)
  exact ⟨.ref _, _, I2.laid (t' := tk) hk (Nat.le_refl _) (show ObjOk X.prog X.w _ _ _ (.lst (kvs.map (·.2))) from ⟨by rw [List.length_map]; exact hz, acc.toList, c', by rw [ev]; exact kv_vals kv, by rw [Array.toArray_toList]; exact hD⟩), rfl, q.go new⟩
end

/-! Kp: locked dicts, comprehensions over pairs, dict comprehensions. -/
def tFrz (te : TE) : TE := fun σ H Q => te σ H fun x H1 => ∃ d u, x = .ref d ∧ H1 d = some u ∧ Mut (some u) ∧ ∀ o, Q (.ref d) (upd H1 d (.frz o u))
/-- what an expression gives is locked from then on (a thing that is used no more) -/
theorem pe_frz {X : Cx} {e : Expr} {te : TE} (he : PE X e te) : PE X e (tFrz te) := by
  refine ⟨fun pins s σ H Q I h => thn (he.run pins s σ H _ I h) fun u s1 hh => ?_⟩
  obtain ⟨x, H1, I1, rx, d, o, ex, hd, mu, q⟩ := hh
  subst ex
  obtain ⟨od, I2⟩ := I1.lock hd mu
  exact ⟨.ref d, _, I2, rx, q od⟩
section
variable {σ : L2.St} {H : Hp} {Q : VK} {te : TE} {R : It → Hp → Prop}
theorem w_frz (h : te σ H fun x H1 => ∃ d u, x = .ref d ∧ H1 d = some u ∧ Mut (some u) ∧ ∀ o, Q (.ref d) (upd H1 d (.frz o u))) : tFrz te σ H Q := h
theorem w_lockE {t : TE} {d : Addr} {u : HO} (hd : H d = some u) (mu : Mut (some u)) (h : ∀ od, t σ (upd H d (.frz od u)) fun v H' => H' d = some (.frz od u) ∧ Q v (upd H' d u)) : tLockE t σ H Q := ⟨d, u, hd, mu, h⟩
theorem w_lockS {t : TS} {D : Ends} {d : Addr} {u : HO} (hd : H d = some u) (mu : Mut (some u)) (h : ∀ od, t ⟨fun σ' H' => H' d = some (.frz od u) ∧ D.nx σ' (upd H' d u), fun v H' => H' d = some (.frz od u) ∧ D.rt v (upd H' d u), fun σ' H' => H' d = some (.frz od u) ∧ D.bk σ' (upd H' d u), fun σ' H' => H' d = some (.frz od u) ∧ D.ct σ' (upd H' d u)⟩ σ (upd H d (.frz od u))) : tLock t D σ H := ⟨d, u, hd, mu, h⟩
theorem w_iItems (h : te σ H fun x H1 => ∃ d o kvs, x = .ref d ∧ H1 d = some (.frz o (.dK kvs)) ∧ R (Iti d o kvs) H1) : iItems te σ H R := h
theorem w_iVals (h : te σ H fun x H1 => ∃ d o kvs, x = .ref d ∧ H1 d = some (.frz o (.dK kvs)) ∧ R (Itd d o kvs) H1) : iVals te σ H R := h
theorem w_iKeys (h : te σ H fun x H1 => ∃ d o, x = .ref d ∧ ((∃ kvs, H1 d = some (.frz o (.dK kvs)) ∧ R (Itk d o kvs) H1) ∨ ∃ kvs, H1 d = some (.frz o (.dT kvs)) ∧ R (Itkt d o kvs) H1)) : iKeys te σ H R := h
end
/-- a heap but for the locked thing, and back -/
theorem frz_back {H H' : Hp} {d : Addr} {u : HO} {od : Obj} (hd : H d = some u) (s : Same (upd H d (.frz od u)) H') : Same H (upd H' d u) := fun b o e => by
  by_cases q : b = d
  · rw [q] at e ⊢
    rw [hd] at e; cases e
    exact upd_same
  · rw [upd_ne q]
    exact s b o (by rw [upd_ne q]; exact e)
theorem fm_two {α : Type} (f : V → V → α) (kvs : List (Key × V)) : (List.range kvs.length).filterMap (fun (i : Nat) => (kvs[i]?.map fun kv => kV kv.1).bind fun x => (kvs[i]?.map Prod.snd).map (f x)) = kvs.map fun kv => f (kV kv.1) kv.2 := by
  have e : (fun (i : Nat) => (kvs[i]?.map fun kv => kV kv.1).bind fun x => (kvs[i]?.map Prod.snd).map (f x)) = fun (i : Nat) => (kvs[i]?).map fun kv => f (kV kv.1) kv.2 := by
    funext i; cases kvs[i]? <;> rfl
  rw [e]
  have h := fm_bind (fun kv : Key × V => some (f (kV kv.1) kv.2)) kvs
  have e2 : (fun (i : Nat) => (kvs[i]?).map fun kv => f (kV kv.1) kv.2) = fun (i : Nat) => (kvs[i]?).bind (fun kv => some (f (kV kv.1) kv.2)) := by
    funext i; cases kvs[i]? <;> rfl
  rw [e2, h]
  simp
section
variable {g : TG} {tt : TT} {te tk tv : TE} {vs : List Nat} {σ : L2.St} {H1 : Hp} {D : Addr} {Qd : Hp → Prop} {J : It} {n : Nat} {G : Hp → Prop} {Y : Nat → Hp → V → Hp → Prop}
/-- [e for k, v in d.items()], d locked; e by the key and the value -/
theorem lc_itemsM {d : Addr} {o : Obj} {kvs : List (Key × V)} (f : Key → V → V) (hd : H1 d = some (.frz o (.dK kvs))) (hz : kvs.length ≤ 1000000) (hD : H1 D = none)
    (hs : ∀ (k : Key) (v : V) (T : Addr) (H' : Hp) (Ky : V → Hp → Prop), (k, v) ∈ kvs → Same H1 H' → H' T = some (.tup [kV k, v]) → (∀ H4, Same H' H4 → Ky (f k v) H4) →
      g (.ref T) (wipe σ vs) H' fun σ2 H2 => wipe σ2 vs = wipe σ vs ∧ te σ2 H2 Ky)
    (hq : ∀ H', Same H1 H' → H' D = some (.lst (kvs.map fun kv => f kv.1 kv.2)) → Qd H') :
    ∃ W : Nat → Nat → Hp → Prop, (∃ m, W 0 m (upd H1 D (.lst []))) ∧ ∀ i m H, W i m H →
      ((Iti d o kvs).stop i H ∧ Qd H) ∨ ((Iti d o kvs).go i H ∧ ∃ Nx : Hp → Prop, (∀ H', Nx H' → ∃ m', m' < m ∧ W (i + 1) m' H') ∧ ∀ x H', (Iti d o kvs).yld i H x H' → g x (wipe σ vs) H' fun σ2 H2 => wipe σ2 vs = wipe σ vs ∧ tYes σ2 H2 fun b H3 =>
        if b = true then te σ2 H3 fun y H4 => ∃ acc, H4 D = some (.lst acc) ∧ acc.length < sizeLine ∧ Nx (upd H4 D (.lst (acc ++ [y]))) else Nx H3) := by
  have w : Walk (Iti d o kvs) kvs.length (fun H => H d = some (.frz o (.dK kvs))) (fun i H x H' => ∃ T k v, kvs[i]? = some (k, v) ∧ x = .ref T ∧ H T = none ∧ H' = upd H T (.tup [kV k, v])) :=
    ⟨fun _ _ hi q => ⟨q, hi⟩, fun _ q => ⟨q, Nat.le_refl _⟩, fun _ _ _ _ _ _ y => y⟩
  refine lc_pure w (fun (i : Nat) => (kvs[i]?).bind fun kv => some (f kv.1 kv.2)) hz hD (fun H s => s _ _ hd) (fun i H x H' y => by obtain ⟨T, k, v, _, _, hT, rfl⟩ := y; exact same_upd hT) ?_ (fun H' s e => hq H' s (by rw [e, fm_bind]; simp))
  rintro i x H H' Ky Kn hi s1 ⟨T, k, v, e, rfl, hT, rfl⟩ ky kn
  have key := hs k v T _ Ky (List.mem_of_getElem? e) (s1.trans (same_upd hT)) upd_same (fun H4 s4 => ky _ H4 s4 (by rw [e]; rfl))
  exact key
/-- a dict comprehension by an invariant -/
theorem dc_it (w : Walk J n G Y) (Pv : Nat → Hp → Prop) (h0 : Pv 0 (upd H1 D (.dK []))) (hG : ∀ i H, i ≤ n → Pv i H → G H)
    (hs : ∀ i x H H', i < n → Pv i H → Y i H x H' → g x (wipe σ vs) H' fun σ2 H2 => wipe σ2 vs = wipe σ vs ∧ tt σ2 H2 fun b H3 =>
      if b = true then tk σ2 H3 fun y H4 => tv σ2 H4 fun z H5 => ∃ kvs k, y = kV k ∧ H5 D = some (.dK kvs) ∧ kvs.length < sizeLine ∧ Pv (i + 1) (upd H5 D (.dK (putK kvs k z))) else Pv (i + 1) H3) (hd : ∀ H, Pv n H → Qd H) :
    ∃ W : Nat → Nat → Hp → Prop, (∃ m, W 0 m (upd H1 D (.dK []))) ∧ ∀ i m H, W i m H →
      (J.stop i H ∧ Qd H) ∨ (J.go i H ∧ ∃ Nx : Hp → Prop, (∀ H', Nx H' → ∃ m', m' < m ∧ W (i + 1) m' H') ∧ ∀ x H', J.yld i H x H' → g x (wipe σ vs) H' fun σ2 H2 => wipe σ2 vs = wipe σ vs ∧ tt σ2 H2 fun b H3 =>
        if b = true then tk σ2 H3 fun y H4 => tv σ2 H4 fun z H5 => ∃ kvs k, y = kV k ∧ H5 D = some (.dK kvs) ∧ kvs.length < sizeLine ∧ Nx (upd H5 D (.dK (putK kvs k z))) else Nx H3) := by
  refine ⟨fun i m H => i ≤ n ∧ m = n - i ∧ Pv i H, ⟨n, Nat.zero_le _, rfl, h0⟩, fun i m H ⟨hi, hm, p⟩ => ?_⟩
  by_cases hlt : i < n
  · exact .inr ⟨w.goes i H hlt (hG i H hi p), Pv (i + 1), fun H' p' => ⟨n - (i + 1), by omega, hlt, rfl, p'⟩, fun x H' y => hs i x H H' hlt p (w.yields i H x H' hlt (hG i H hi p) y)⟩
  · have e : i = n := by omega
    subst e
    exact .inl ⟨w.stops H (hG _ H hi p), hd H p⟩
/-- a pure dict comprehension: each turn one entry or none -/
theorem dc_pure (w : Walk J n G Y) (r : Nat → Option (Key × V)) (hn : n ≤ 1000000) (hD : H1 D = none) (hG : ∀ H, Same H1 H → G H) (hY : ∀ i H x H', Y i H x H' → Same H H')
    (hs : ∀ i x H H' (Ky : V → V → Hp → Prop) (Kn : Hp → Prop), i < n → Same H1 H → Y i H x H' → (∀ k z H5, Same H' H5 → r i = some (k, z) → Ky (kV k) z H5) → (∀ H3, Same H' H3 → r i = none → Kn H3) →
      g x (wipe σ vs) H' fun σ2 H2 => wipe σ2 vs = wipe σ vs ∧ tt σ2 H2 fun b H3 => if b = true then tk σ2 H3 fun y H4 => tv σ2 H4 fun z H5 => Ky y z H5 else Kn H3)
    (hd : ∀ H', Same H1 H' → H' D = some (.dK (mergeK [] ((List.range n).filterMap r))) → Qd H') :
    ∃ W : Nat → Nat → Hp → Prop, (∃ m, W 0 m (upd H1 D (.dK []))) ∧ ∀ i m H, W i m H →
      (J.stop i H ∧ Qd H) ∨ (J.go i H ∧ ∃ Nx : Hp → Prop, (∀ H', Nx H' → ∃ m', m' < m ∧ W (i + 1) m' H') ∧ ∀ x H', J.yld i H x H' → g x (wipe σ vs) H' fun σ2 H2 => wipe σ2 vs = wipe σ vs ∧ tt σ2 H2 fun b H3 =>
        if b = true then tk σ2 H3 fun y H4 => tv σ2 H4 fun z H5 => ∃ kvs k, y = kV k ∧ H5 D = some (.dK kvs) ∧ kvs.length < sizeLine ∧ Nx (upd H5 D (.dK (putK kvs k z))) else Nx H3) := by
  have step : ∀ i, (List.range (i + 1)).filterMap r = (List.range i).filterMap r ++ (match r i with | some y => [y] | none => []) := fun i => by
    rw [List.range_succ, List.filterMap_append]
    cases e : r i <;> simp [e]
  refine dc_it w (fun i H => Same H1 H ∧ H D = some (.dK (mergeK [] ((List.range i).filterMap r)))) ⟨same_upd hD, upd_same⟩ (fun i H _ h => hG H h.1) ?_ (fun H h => hd H h.1 h.2)
  rintro i x H H' hi ⟨s1, eD⟩ y
  have s2 := hY _ _ _ _ y
  refine hs i x H H' (fun y z H5 => ∃ kvs k, y = kV k ∧ H5 D = some (.dK kvs) ∧ kvs.length < sizeLine ∧ (Same H1 (upd H5 D (.dK (putK kvs k z))) ∧ upd H5 D (.dK (putK kvs k z)) D = some (.dK (mergeK [] ((List.range (i + 1)).filterMap r))))) _ hi s1 y (fun k z H5 s5 e => ?_) (fun H3 s3 e => ?_)
  · refine ⟨_, k, rfl, s5 _ _ (s2 _ _ eD), ?_, same_put (s1.trans (s2.trans s5)) hD, ?_⟩
    · have h1 := length_mergeK ((List.range i).filterMap r) []
      have h2 := List.length_filterMap_le r (List.range i)
      rw [List.length_range] at h2
      have h3 : (sizeLine : Nat) = 16777216 := sizeLine_eq
      have h4 : ([] : List (Key × V)).length = 0 := rfl
      omega
    · rw [upd_same, step, e]
      unfold mergeK
      rw [List.foldl_append]
      rfl
  · refine ⟨s1.trans (s2.trans s3), ?_⟩
    rw [step, e, List.append_nil]
    exact s3 _ _ (s2 _ _ eD)
end
theorem w_dc {wi : TI} {g : TG} {tt : TT} {tk tv : TE} {vs : List Nat} {σ : L2.St} {H : Hp} {Q : VK} (h : wi σ H fun J H1 => ∀ D, H1 D = none → ∃ W : Nat → Nat → Hp → Prop, (∃ m, W 0 m (upd H1 D (.dK []))) ∧ ∀ i m H, W i m H →
  (J.stop i H ∧ Q (.ref D) H) ∨ (J.go i H ∧ ∃ Nx : Hp → Prop, (∀ H', Nx H' → ∃ m', m' < m ∧ W (i + 1) m' H') ∧ ∀ x H', J.yld i H x H' → g x (wipe σ vs) H' fun σ2 H2 => wipe σ2 vs = wipe σ vs ∧ tt σ2 H2 fun b H3 =>
    if b = true then tk σ2 H3 fun y H4 => tv σ2 H4 fun z H5 => ∃ kvs k, y = kV k ∧ H5 D = some (.dK kvs) ∧ kvs.length < sizeLine ∧ Nx (upd H5 D (.dK (putK kvs k z))) else Nx H3)) : tDc wi g tt tk tv vs σ H Q := h
/-! #### dicts of distinct keys -/
theorem putK_append {kvs : List (Key × V)} {k : Key} {v : V} (h : k ∉ kvs.map (·.1)) : putK kvs k v = kvs ++ [(k, v)] := by
  unfold putK
  rw [if_neg]
  intro q
  obtain ⟨kv, hm, e⟩ := List.any_eq_true.mp q
  exact h (List.mem_map.mpr ⟨kv, hm, by simpa using e⟩)
theorem mergeK_nodup : ∀ {kvs acc : List (Key × V)}, ((acc ++ kvs).map (·.1)).Nodup → mergeK acc kvs = acc ++ kvs
  | [], acc, _ => by simp [mergeK]
  | (k, v) :: r, acc, h => by
    have h1 : k ∉ acc.map (·.1) := fun q => by
      rw [List.map_append, List.map_cons] at h
      exact (List.nodup_append.mp h).2.2 k q k List.mem_cons_self rfl
    show mergeK (putK acc k v) r = _
    rw [putK_append h1, mergeK_nodup (by simpa using h)]
    simp
theorem valV_of_mem {kvs : List (Key × V)} {k : Key} {v : V} (hn : (kvs.map (·.1)).Nodup) (h : (k, v) ∈ kvs) : valV kvs k = some v := by
  induction kvs with
  | nil => cases h
  | cons p r ih =>
    rw [List.map_cons, List.nodup_cons] at hn
    rcases List.mem_cons.mp h with e | h
    · rw [← e]; exact valV_pos rfl
    · rw [valV_neg, ih hn.2 h]
      intro z
      exact hn.1 (z ▸ List.mem_map.mpr ⟨_, h, rfl⟩)
theorem valV_none {kvs : List (Key × V)} {k : Key} (h : k ∉ kvs.map (·.1)) : valV kvs k = none := by
  induction kvs with
  | nil => rfl
  | cons p r ih =>
    rw [List.map_cons, List.mem_cons] at h
    rw [valV_neg (fun z => h (.inl z.symm)), ih (fun q => h (.inr q))]
theorem valV_some {kvs : List (Key × V)} {k : Key} {v : V} (h : valV kvs k = some v) : (k, v) ∈ kvs := by
  induction kvs with
  | nil => cases h
  | cons p r ih =>
    by_cases e : p.1 = k
    · rw [valV_pos e] at h
      have : p = (k, v) := by rw [← e, ← Option.some.inj h]
      rw [this]; exact List.mem_cons_self
    · rw [valV_neg e] at h
      exact List.mem_cons_of_mem _ (ih h)

/-! Kx: methods, classes and errors by their names; own comparison; dicts asked and written; two-fold comprehensions. -/
structure AtM (K : PySem.W.Frag) (C : Addr) (x qual : Str) (st : Stmt) : Prop where
  ex : ∃ f fd, Fun K x qual st f fd ∧ Meth K C x f
structure MethOk (P : Program) (w : World) (K : PySem.W.Frag) (mg : Str → Option Value) (base : Heap) (k : Nat) (C : Addr) (x : Str) (ps : List Str) (sp : Sp) : Prop where
  ex : ∃ f fd, FnOk P w K mg base (L2.CX P w) k f fd ps sp ∧ Meth K C x f ∧ Binds K fd ps []
structure AtI (K : PySem.W.Frag) (mg : Str → Option Value) (x : Str) (C : Addr) (qual : Str) (st : Stmt) (dvs : List V) : Prop where
  ex : ∃ f fd, FunD K "__init__" qual (defArgs st) (defBody st) (defScope st) dvs [] f fd ∧ Mk K C f ∧ mg x = some (.ref C)
structure MakeOk (P : Program) (w : World) (K : PySem.W.Frag) (mg : Str → Option Value) (base : Heap) (k : Nat) (x : Str) (C : Addr) (ps : List Str) (sp : Sp) (dvs : List V) : Prop where
  ex : ∃ f fd ds, FnOk P w K mg base (L2.CX P w) k f fd ps sp ∧ Mk K C f ∧ mg x = some (.ref C) ∧ Vals dvs ds ∧ Binds K fd ps ds
structure InitOk (P : Program) (w : World) (K : PySem.W.Frag) (mg : Str → Option Value) (base : Heap) (k : Nat) (x : Str) (C : Addr) (qual : Str) (st : Stmt) (ps : List Str) (sp : Sp) (dvs : List V) : Prop where
  ex : ∃ f fd, FnOk P w K mg base (L2.CX P w) k f fd ps sp ∧ FunD K "__init__" qual (defArgs st) (defBody st) (defScope st) dvs [] f fd ∧ Mk K C f ∧ mg x = some (.ref C)
section
variable {P : Program} {w : World} {K : PySem.W.Frag} {mg : Str → Option Value} {base : Heap}
theorem MethOk.of {C : Addr} {x qual : Str} {st : Stmt} {N ps : List Str} {k : Nat} {sp : Sp} (F : AtM K C x qual st) (S : FnScope N ps (defScope st))
    (hb : ∀ (kV doc pm : Value) (an : Option Addr) (cdv ct : Value) (us : List Value), us.length = ps.length → bindArgs (PySem.W.fnOf x qual (defArgs st) (defBody st) (defScope st) .none kV doc pm an cdv ct) ⟨us, []⟩ = pure (ps.zip us))
    (len : ∀ vs H Q E, sp vs H Q E → vs.length = ps.length)
    (hbody : ∀ (f : Addr) (cdv : Value) (A : Around) (outer : List Env) (s : Shared) (H : Hp) (vs : List V) (Q : VK) (E : XK), Room k (A.deeper (envOfC qual (defScope st) s.heap.objs.size f cdv)) → sp vs H Q E →
      ∃ t, PSs (cxOf (L2.CX P w) P w K mg base N qual (defScope st) f cdv A outer s H E) (defBody st) t ∧ t { nx := fun _ H' => Q .non H', rt := Q } (start N vs) H) : MethOk P w K mg base (k + 1) C x ps sp := by
  obtain ⟨f, fd, F, M⟩ := F.ex
  exact ⟨f, fd, F.okX S len (hbody f), M, F.binds hb⟩
theorem MethOk.mono {C : Addr} {x : Str} {ps : List Str} {j k : Nat} {sp : Sp} (D : MethOk P w K mg base j C x ps sp) (h : j ≤ k) : MethOk P w K mg base k C x ps sp := by
  obtain ⟨f, fd, F, r⟩ := D.ex
  exact ⟨f, fd, F.mono h, r⟩
theorem InitOk.of {C : Addr} {x qual : Str} {st : Stmt} {N ps : List Str} {k : Nat} {sp : Sp} {dvs : List V} (F : AtI K mg x C qual st dvs) (S : FnScope N ps (defScope st))
    (len : ∀ vs H Q E, sp vs H Q E → vs.length = ps.length)
    (hbody : ∀ (f : Addr) (cdv : Value) (A : Around) (outer : List Env) (s : Shared) (H : Hp) (vs : List V) (Q : VK) (E : XK), Room k (A.deeper (envOfC qual (defScope st) s.heap.objs.size f cdv)) → sp vs H Q E →
      ∃ t, PSs (cxOf (L2.CX P w) P w K mg base N qual (defScope st) f cdv A outer s H E) (defBody st) t ∧ t { nx := fun _ H' => Q .non H', rt := Q } (start N vs) H) : InitOk P w K mg base (k + 1) x C qual st ps sp dvs := by
  obtain ⟨f, fd, F, M, g⟩ := F.ex
  exact ⟨f, fd, F.ok S len (hbody f), F, M, g⟩
/-- without defaults -/
theorem InitOk.make {C : Addr} {x qual : Str} {st : Stmt} {ps : List Str} {k : Nat} {sp : Sp} (I : InitOk P w K mg base k x C qual st ps sp [])
    (h : ∀ (kV doc pm : Value) (an : Option Addr) (cdv ct : Value) (us : List Value), us.length = ps.length → bindArgs (PySem.W.fnOf "__init__" qual (defArgs st) (defBody st) (defScope st) .none kV doc pm an cdv ct) ⟨us, []⟩ = pure (ps.zip us)) :
    MakeOk P w K mg base k x C ps sp [] := by
  obtain ⟨f, fd, G, F, M, g⟩ := I.ex
  exact ⟨f, fd, [], G, M, g, .nil, F.bindsN h⟩
/-- with defaults: n values are written, those behind the first j fill up -/
theorem InitOk.makeD {C : Addr} {x qual : Str} {st : Stmt} {ps : List Str} {k : Nat} {sp : Sp} {dvs : List V} (I : InitOk P w K mg base k x C qual st ps sp dvs) (n j : Nat) (hd : dvs ≠ []) (hn : n + (dvs.length - j) = ps.length)
    (h : ∀ (T : Addr) (kV doc pm : Value) (an : Option Addr) (cdv ct : Value) (us its : List Value), us.length = n → its.length = dvs.length →
      ∃ k, bindArgs (PySem.W.fnOf "__init__" qual (defArgs st) (defBody st) (defScope st) (.ref T) kV doc pm an cdv ct) ⟨us, []⟩ = seqItems? (.ref T) >>= k ∧ k (some its.toArray) = pure (ps.zip (us ++ its.drop j))) : MakeOk P w K mg base k x C ps sp (dvs.drop j) := by
  obtain ⟨f, fd, G, F, M, g⟩ := I.ex
  obtain ⟨ds, r, b⟩ := F.binds1 n j hd hn h
  exact ⟨f, fd, ds, G, M, g, r, b⟩
end
/-- a new instance, its fields not yet set, then __init__ -/
def tMakeN (C : Addr) (sp : Sp) (dvs : List V) (E : XK) (t : TA) : TE := fun σ H Q => t σ H fun vs H1 => ∀ x dx H2, H1 x = none → H1 dx = none → dx ≠ x → Same H1 H2 → H2 x = some (.ins C dx []) →
  sp (.ref x :: (vs ++ dvs)) H2 (fun v H3 => v = .non ∧ Q (.ref x) H3) E
section
variable {X : Cx} {k : Nat} {ps : List Str} {sp : Sp} {E : XK} {x m : Str} {p pos apos : Pos} {e o : Expr} {es : List Expr} {t : TA} {ta : TE} {C : Addr} {dvs : List V}
theorem pe_makeD (M : MakeOk X.prog X.w X.K X.mg X.base k x C ps sp dvs) (hr : Room (k + 1) X.A) (hx : Passes (L2.CX X.prog X.w) X E) (ha : PA X (e :: es) t) (hg : Gl X x := by rfl) (hdb : (x == ("__debug__" : Str)) = false := by decide)
    (he : starEach (e :: es) X.env = (false, eval e X.env) :: starEach es X.env := by rfl) (hpl : (backTo pos (starEach es X.env)).any (·.1) = false := by rfl) :
    PE X (.Call (.Name x p) (e :: es) [] pos) (tMakeN C sp dvs E t) := by
  obtain ⟨f, fd, ds, F, M, g, r, b⟩ := M.ex
  refine PE_imp (pe_make M F hr hg g b r hx (PA_mono ha) hdb he hpl) fun σ H Q q => ⟨_, q, fun vs H1 h x dx hx1 hdx ne => ?_⟩
  refine h x dx _ hx1 hdx ne ?_ upd_same
  exact same_put (same_upd hdx) hx1
theorem pe_methD {pl : Sem Bool} (D : MethOk X.prog X.w X.K X.mg X.base k C m ps sp) (c : Cls X.K C) (hr : Room k X.A) (hx : Passes (L2.CX X.prog X.w) X E) (he : PE X o ta) (ha : PA X (e :: es) t)
    (hst : starEach (e :: es) X.env = (false, eval e X.env) :: starEach es X.env := by rfl) (hpl : (backTo pos (starEach es X.env)).any (·.1) = false := by rfl)
    (ht : eval (.Call (.Attribute o m apos) (e :: es) [] pos) X.env = (do
      let ov ← eval o X.env
      standAt apos.atName
      let (f, first) ← holding [ov] (getMethod ov m pl)
      callWith pos f first (backTo pos (starEach (e :: es) X.env)) (backToKw pos (keywordEach [] X.env))) := by rfl) :
    PE X (.Call (.Attribute o m apos) (e :: es) [] pos) (tMeth C m sp [] E ta t) := by
  obtain ⟨f, fd, F, M, b⟩ := D.ex
  exact pe_meth he c M F hr b .nil hx ha hst hpl ht
theorem pe_methD0 {pl : Sem Bool} (D : MethOk X.prog X.w X.K X.mg X.base k C m ps sp) (c : Cls X.K C) (hr : Room k X.A) (hx : Passes (L2.CX X.prog X.w) X E) (he : PE X o ta)
    (ht : eval (.Call (.Attribute o m apos) [] [] pos) X.env = (do
      let ov ← eval o X.env
      standAt apos.atName
      let (f, first) ← holding [ov] (getMethod ov m pl)
      callWith pos f first (backTo pos (starEach [] X.env)) (backToKw pos (keywordEach [] X.env))) := by rfl) :
    PE X (.Call (.Attribute o m apos) [] [] pos) (tMeth C m sp [] E ta tNil) := by
  obtain ⟨f, fd, F, M, b⟩ := D.ex
  exact pe_meth0 he c M F hr b .nil hx ht
end
theorem w_meth {C : Addr} {m : Str} {sp : Sp} {E : XK} {ta : TE} {t : TA} {σ : L2.St} {H : Hp} {Q : VK} (h : ta σ H fun x H1 => ∃ a dx fs, x = .ref a ∧ H1 a = some (.ins C dx fs) ∧ fs.lookup m = none ∧ t σ H1 fun vs H2 => sp (x :: (vs ++ [])) H2 Q E) : tMeth C m sp [] E ta t σ H Q := h
theorem w_make {C : Addr} {sp : Sp} {dvs : List V} {E : XK} {t : TA} {σ : L2.St} {H : Hp} {Q : VK} (h : t σ H fun vs H1 => ∀ x dx H2, H1 x = none → H1 dx = none → dx ≠ x → Same H1 H2 → H2 x = some (.ins C dx []) → sp (.ref x :: (vs ++ dvs)) H2 (fun v H3 => v = .non ∧ Q (.ref x) H3) E) : tMakeN C sp dvs E t σ H Q := h

/-! ### errors without an __init__ of their own -/
structure ExcF (K : PySem.W.Frag) (mg : Str → Option Value) (n : Str) (C : Addr) : Prop where
  g : mg n = some (.ref C)
  ex : PySem.W.excIn K C [.type "ValueError", .type "Exception", .type "BaseException", .type "object"] "ValueError.__new__" = true
  kp : PySem.W.keepIn K (.ref C) = true
  sb : PySem.W.subIn K (.ref C) (.type "BaseException") = some true
  ty : PySem.W.typeIn K (.ref C) = some (.type "type")
  ic : PySem.W.isClsIn K C = true
  se : PySem.W.subIn K (.ref C) (.ref C) = some true
def tErr (C : Addr) (E : XK) : TS := fun _ _ H => E (.ref C) none H
theorem w_err {C : Addr} {E : XK} {D : Ends} {σ : L2.St} {H : Hp} (h : E (.ref C) none H) : tErr C E D σ H := h
section
variable {X : Cx} {E : XK} {x m : Str} {p p2 pos pos2 : Pos} {j : Nat} {C : Addr}
theorem ps_err (F : ExcF X.K X.mg x C) (tk : Takes X (fun cls d _ H => E cls d H)) (hc : X.calm = true := by rfl) (hg : Gl X x := by rfl) (hdb : (x == ("__debug__" : Str)) = false := by decide) :
    PS X (.Raise (some (.Call (.Name x p) [.Constant (.str m) j p2] [] pos)) none pos2) (tErr C E) :=
  ps_raise hc tk (pmk_own PySem.F.excBase_ValueError F.ex F.g F.kp (raises_own F.sb F.ty) hg hdb)
end
/-! ### classes of the text -/
structure ClsF (K : PySem.W.Frag) (mg : Str → Option Value) (n : Str) (C : Addr) : Prop where
  g : mg n = some (.ref C)
  cl : Cls K C
  ha : PySem.W.findIn K (.ref C) "__class__" = some (some (.builtin "object.__class__"))
  hn : PySem.W.specialIn K (.builtin "object.__class__") "__get__" = some (some (.builtin "getset_descriptor.__get__"))
  ht : PySem.W.takesIn K (.builtin "object.__class__") = some true
  hm : PySem.W.mroIn K C (.type "object") = some true
  ne : PySem.W.findIn K (.ref C) "__ne__" = some (some (.builtin "object.__ne__"))
  ic : PySem.W.isClsIn K C = true
  ty : PySem.W.typeIn K (.ref C) = some (.type "type")
theorem sub_bt {K : PySem.W.Frag} {C : Addr} {T : String} {l : List String} (e : fastBuiltinMro T = some (l.map Value.type)) : PySem.W.subIn K (.type T) (.ref C) = some false := by
  show (fastBuiltinMro T).map (·.contains (.ref C)) = some false
  rw [e]
  show some _ = some _
  congr 1
  induction l with
  | nil => rfl
  | cons a r ih => first | rfl | simp
theorem kit_bt {K : PySem.W.Frag} {C : Addr} {T : String} (ic : PySem.W.isClsIn K C = true) (ty : PySem.W.typeIn K (.ref C) = some (.type "type")) (s : PySem.W.subIn K (.type T) (.ref C) = some false) : PySem.W.kitOne K (.type T) (.ref C) = some false := by
  have e2 : ((PySem.W.clsIn K C).isSome && PySem.W.typeIn K (.ref C) == some (.type "type")) = true := by
    have h2' : (PySem.W.clsIn K C).isSome = true := ic
    rw [h2', ty] <;> rfl
  show (if (Value.type T == Value.ref C) = true then some true else if ((PySem.W.clsIn K C).isSome && PySem.W.typeIn K (.ref C) == some (.type "type")) = true then PySem.W.subIn K (.type T) (.ref C) else none) = some false
  rw [if_pos e2, s]
  rfl
theorem kit_self {K : PySem.W.Frag} {C : Addr} : PySem.W.kitOne K (.ref C) (.ref C) = some true := by
  unfold PySem.W.kitOne
  rw [if_pos (by simp)]
theorem first_bt {K : PySem.W.Frag} {C : Addr} {T : String} (s : PySem.W.subIn K (.type T) (.ref C) = some false) : PySem.W.notFirst K C (.type T) = true := by
  unfold PySem.W.notFirst
  rw [s]
  simp
theorem first_self {K : PySem.W.Frag} {C : Addr} : PySem.W.notFirst K C (.ref C) = true := by
  unfold PySem.W.notFirst
  simp
theorem ClsF.tyX {K : PySem.W.Frag} {mg : Str → Option Value} {n : Str} {C a dx : Addr} {H : Hp} {fs : List (Str × V)} (c : ClsF K mg n C) (e : H a = some (.ins C dx fs)) : TyX K H (.ref a) (.ref C) := .base (.ins e c.cl c.ha c.hn c.ht c.hm)
theorem ClsF.isi {K : PySem.W.Frag} {mg : Str → Option Value} {n : Str} {C a dx : Addr} {H : Hp} {fs : List (Str × V)} {Q : VK} (c : ClsF K mg n C) (e : H a = some (.ins C dx fs)) (q : Q (.bl true) H) : rIsi K [.ref a, .ref C] H Q := ⟨_, _, _, _, _, rfl, .own C, c.tyX e, kit_self, q⟩
/-- any object's type, told of this class -/
theorem ClsF.any {K : PySem.W.Frag} {mg : Str → Option Value} {n : Str} {C : Addr} {H : Hp} {v : V} (c : ClsF K mg n C) (h : AnyV H v) : ∃ t, TyX K H v t ∧ PySem.W.kitOne K t (.ref C) = some false ∧ PySem.W.notFirst K C t = true := by
  have go : ∀ {T : String} {l : List String}, TyX K H v (.type T) → fastBuiltinMro T = some (l.map Value.type) → ∃ t, TyX K H v t ∧ PySem.W.kitOne K t (.ref C) = some false ∧ PySem.W.notFirst K C t = true :=
    fun ty e => ⟨_, ty, kit_bt c.ic c.ty (sub_bt e), first_bt (sub_bt e)⟩
  cases h with
  | non => exact go (l := ["NoneType", "object"]) (.base .non) (by decide +kernel)
  | bl b => exact go (l := ["bool", "int", "object"]) (.base (.bl b)) (by decide +kernel)
  | int i => exact go (l := ["int", "object"]) (.base (.int i)) (by decide +kernel)
  | str x _ => exact go (l := ["str", "object"]) (.base (.str x)) (by decide +kernel)
  | lst h _ _ => exact go (l := ["list", "object"]) (.base (.lst h)) (by decide +kernel)
  | tup h _ _ => exact go (l := ["tuple", "object"]) (.base (.tup h)) (by decide +kernel)
  | dK h _ _ _ => exact go (l := ["dict", "object"]) (.base (.dK h)) (by decide +kernel)
theorem ClsF.isi0 {K : PySem.W.Frag} {mg : Str → Option Value} {n : Str} {C : Addr} {H : Hp} {v : V} {Q : VK} (c : ClsF K mg n C) (h : AnyV H v) (q : Q (.bl false) H) : rIsi K [v, .ref C] H Q := by
  obtain ⟨t, ty, e, _⟩ := c.any h
  exact ⟨_, _, _, _, _, rfl, .own C, ty, e, q⟩
theorem pe_cls {X : Cx} {x : Str} {C : Addr} {pos : Pos} (F : ClsF X.K X.mg x C) (hg : Gl X x := by rfl) (hd : (x == ("__debug__" : Str)) = false := by decide) : PE X (.Name x pos) (tC (.ref C)) := pe_glob hg F.g rfl hd

/-! ### x == y, x != y by an own __eq__ -/
def rCmpO (K : PySem.W.Frag) (C : Addr) (sp : Sp) (E : XK) (n : Bool → Bool) : R2 := fun x y H Q => ∃ a dx fs tb, x = .ref a ∧ H a = some (.ins C dx fs) ∧ TyX K H y tb ∧ PySem.W.notFirst K C tb = true ∧ sp [x, y] H (fun v H' => ∃ b, v = .bl b ∧ Q (.bl (n b)) H') E
section
variable {X : Cx} {k : Nat} {ps : List Str} {sp : Sp} {E : XK} {C : Addr}
theorem op_eqO (D : MethOk X.prog X.w X.K X.mg X.base k C "__eq__" ps sp) (hr : Room k X.A) (hx : Passes (L2.CX X.prog X.w) X E) : OpR X (compareOp .Eq) (rCmpO X.K C sp E id) := by
  intro pins s σ H x y v u Q I rx ry hq
  obtain ⟨a, dx, fs, tb, rfl, ha, ty, hn, hs⟩ := hq
  obtain ⟨f, fd, F, M, b⟩ := D.ex
  cases rx
  obtain ⟨mA, J, _⟩ := ins_get I.hok ha
  obtain ⟨od, J, _⟩ := J.look
  obtain ⟨m, hF⟩ := I.fr
  obtain ⟨P, Z, p, _⟩ := kit_of I ry ty
  show wpAny (model X.prog X.w) X.A (richCompare .Eq (.ref a) u) (EP X pins σ Q) X.xe s
  refine PySem.W.cmp_K (op := .Eq) hr.units0 hF I.ok.mod.kin J (Z.ty _ _ I.kIn p) hn M.at_ M.fn ?_
  refine wpAny_mono (run_fn F hr b .nil hx I (show Vals [V.ref a, y] [Value.ref a, u] from .cons rfl (.cons ry .nil)) hs) (fun r s' h => ?_) fun _ _ x => x
  obtain ⟨z, H', I', rz, b, ez, q⟩ := h
  subst ez
  cases rz
  exact ⟨.bl b, H', I', rfl, q⟩
theorem ifBound_ne {M : Model} {A : Around} {E : Value → Shared → Prop} {s : Shared} {K : PySem.W.Frag} {x C : Addr} {ox : Obj} {od : Option Obj} {args : List Value} {Q : Option Value → Shared → Prop} (X : K.In s.heap) (I : PySem.W.InstAt s.heap x ox C od)
    (hs : PySem.W.findIn K (.ref C) "__ne__" = some (some (.builtin "object.__ne__"))) (h : wpAny M A (call (.builtin "object.__ne__") (.ref x :: args)) (fun v => Q (some v)) E s) : wpAny M A (callSpecialIfBound? (.ref x) "__ne__" args) Q E s := by
  simp only [callSpecialIfBound?, bindSpecialIfBound?]
  refine wpAny_holding (wpAny_bind (wpAny_bind (wpAny_bind (I.type.here ((PySem.W.looks_findIn X hs).here ?_)))))
  refine wpAny_bind (wpAny_askSetting (wpAny_ite ?_))
  have fin : wpAny M A (call (.builtin "object.__ne__") ([.ref x] ++ args) >>= fun v => pure (some v)) Q E s := wpAny_bind (wpAny_mono h (fun v s' h' => wpAny_pure h') fun _ _ h' => h')
  split
  · exact wpAny_bind (wpAny_of_eq (F.cmp_object.ne.bind _) (wpAny_pure (by exact fin)))
  · exact wpAny_tryCatch (wpAny_bind (wpAny_of_eq (F.cmp_object.ne.bind _) (wpAny_pure (by exact fin))))
theorem ne_entry {prog : Program} {w : World} {A : Around} {E : Value → Shared → Prop} {s : Shared} {K : PySem.W.Frag} {x C f : Addr} {b : Value} {ox : Obj} {od : Option Obj} {Q : Fin → Shared → Prop} (hu : A.units < cLine) (X : K.In s.heap) (I : PySem.W.InstAt s.heap x ox C od)
    (hs : PySem.W.findIn K (.ref C) "__eq__" = some (some (.ref f))) (hf : PySem.W.isFn K (.ref f) = true)
    (h : wpAny (model prog w) A (call (.ref f) [.ref x, b]) (fun v s' => ∃ c, v = .bool c ∧ Q (.done (.ret (.bool (!c)))) s') E s) : wpAny (model prog w) A (Builtin.«object.__ne__» ⟨[.ref x, b], []⟩) Q E s := by
  unfold Builtin.«object.__ne__»
  repeat (first
    | with_reducible refine wpAny_cRoomFor hu ?_
    | (refine wpAny_bind (m := callSpecialIfBound? (.ref x) (Str.ofString "__eq__") [b]) (PySem.W.ifBound_K X I hs hf (wpAny_mono h (fun r s' hr => by
          obtain ⟨c, rfl, hq⟩ := hr
          repeat (first | exact hq | exact wpAny_pure hq | exact wpAny_truthy_bool hq | (refine wpAny_bind (m := truthy (.bool _)) (wpAny_truthy_bool ?_)) | wp_step)) fun _ _ e => e)))
    | wp_step)
theorem cmpNe {h₀ : Heap} {prog : Program} {w : World} {A : Around} {E : Value → Shared → Prop} {s : Shared} {K : PySem.W.Frag} {x C f L : Addr} {b tb : Value} {m : Str → Option Value} {ox : Obj} {od : Option Obj} {Q : Value → Shared → Prop} (hu : A.units + 1 < cLine) (X : K.In s.heap) (I : PySem.W.InstAt s.heap x ox C od)
    (hb : PySem.W.Looks (model prog w) s.heap (typeOf b) tb) (hn : PySem.W.notFirst K C tb = true) (hne : PySem.W.findIn K (.ref C) "__ne__" = some (some (.builtin "object.__ne__"))) (hm : PySem.W.mroIn K C (.type "object") = some true)
    (hs : PySem.W.findIn K (.ref C) "__eq__" = some (some (.ref f))) (hf : PySem.W.isFn K (.ref f) = true)
    (h : wpAny (model prog w) A.in1 (call (.ref f) [.ref x, b]) (fun v s' => ∃ c, v = .bool c ∧ Q (.bool (!c)) s') E s) : wpAny (model prog w) A (richCompare .NotEq (.ref x) b) Q E s := by
  have one : wpAny (model prog w) A (tryCompare (.ref x) "__ne__" b) (fun r s' => ∃ v, r = some v ∧ Q v s') E s := by
    unfold tryCompare
    refine wpAny_bind (ifBound_ne X I hne (wpAny_call (codeAny_call_builtin F.cmp_object.ne.plain F.cmpEntry_ne (PySem.W.check_slot F.cmpKind_ne F.cmpSplit_ne (I.type.andThen (PySem.W.looks_mroIn X hm)) (F.cmpArgs_ne _ _)
      (ne_entry (A := A.in1) hu X I hs hf (wpAny_mono h (fun v s' hv => ?_) fun _ _ e => e))))))
    obtain ⟨c, rfl, hq⟩ := hv
    exact ⟨c, rfl, wpAny_pure ⟨_, rfl, hq⟩⟩
  unfold richCompare
  simp only [oneThing_ref, cmpInfo_NotEq]
  refine wpAny_holding (wpAny_bind (wpAny_cRoomFor (Nat.lt_of_succ_lt hu) ?_))
  refine wpAny_bind (I.type.here (wpAny_bind (hb.here ?_)))
  split
  · rename_i q
    have e : PySem.W.subIn K tb (.ref C) = some false := by
      rcases Bool.or_eq_true_iff.mp hn with e | e
      · rw [beq_iff_eq.mp e] at q; simp at q
      · exact beq_iff_eq.mp e
    refine wpAny_bind ((PySem.W.looks_subIn X e).here ?_)
    simp only [Bool.false_eq_true, if_false]
    refine wpAny_bind (wpAny_mono one (fun r s' z => ?_) fun _ _ e => e)
    obtain ⟨v, rfl, hq⟩ := z
    exact wpAny_pure hq
  · refine wpAny_bind (wpAny_pure ?_)
    simp only [Bool.false_eq_true, if_false]
    refine wpAny_bind (wpAny_mono one (fun r s' z => ?_) fun _ _ e => e)
    obtain ⟨v, rfl, hq⟩ := z
    exact wpAny_pure hq
theorem op_neO {mg : Str → Option Value} {nm : Str} (c : ClsF X.K mg nm C) (D : MethOk X.prog X.w X.K X.mg X.base k C "__eq__" ps sp) (hr : Room (k + 1) X.A) (hx : Passes (L2.CX X.prog X.w) X E) : OpR X (compareOp .NotEq) (rCmpO X.K C sp E not) := by
  intro pins s σ H x y v u Q I rx ry hq
  obtain ⟨a, dx, fs, tb, rfl, ha, ty, hn, hs⟩ := hq
  obtain ⟨f, fd, F, M, b⟩ := D.ex
  cases rx
  obtain ⟨mA, J, _⟩ := ins_get I.hok ha
  obtain ⟨od, J, _⟩ := J.look
  obtain ⟨P, Z, p, _⟩ := kit_of I ry ty
  show wpAny (model X.prog X.w) X.A (richCompare .NotEq (.ref a) u) (EP X pins σ Q) X.xe s
  refine cmpNe (L := 0) (h₀ := X.base) (m := fun _ => none) (by have := hr.units; omega) I.kIn J (Z.ty _ _ I.kIn p) hn c.ne c.hm M.at_ M.fn ?_
  have e0 : Env0 X.prog X.w X.K X.mg X.base X.A.in1 X.stack s H := by
    have e := I.env0
    exact ⟨e.frames, e.mod, e.bs, e.bsz, e.funs, e.frf, e.hok, e.bare⟩
  have r2 : Vals [V.ref a, y] [Value.ref a, u] := .cons rfl (.cons ry .nil)
  have hl := F.len _ _ _ _ hs
  refine wpAny_call (codeAny_mono (F.run X.A.in1 X.stack s H ⟨[.ref a, u], []⟩ [.ref a, u] [.ref a, y] _ E hr.in1 e0 (by
    have := b s [.ref a, u] I.kIn (by simpa using hl)
    simpa using this) r2 hs) fun r s' hq => ?_)
  cases r with
  | error e => exact hx pins σ H s e s' I hq
  | ok fl =>
    cases fl with
    | ret w' =>
      obtain ⟨z, H', I', rz, c, ez, q⟩ := I.after hq
      subst ez
      cases rz
      exact ⟨c, rfl, .bl (!c), H', I', rfl, q⟩
    | next => exact False.elim hq
    | brk => exact False.elim hq
    | cont => exact False.elim hq
end
section
variable {K : PySem.W.Frag} {C a dx tb : Addr} {sp : Sp} {E : XK} {H : Hp} {y : V} {Q : VK} {fs : List (Str × V)} {n : Bool → Bool}
theorem w_cmpO {t : Value} (ha : H a = some (.ins C dx fs)) (ty : TyX K H y t) (hn : PySem.W.notFirst K C t = true) (h : sp [.ref a, y] H (fun v H' => ∃ b, v = .bl b ∧ Q (.bl (n b)) H') E) : rCmpO K C sp E n (.ref a) y H Q := ⟨a, dx, fs, t, rfl, ha, ty, hn, h⟩
end
/-! ### the end: methods, classes -/
theorem atM_mk {K : PySem.W.Frag} {C : Addr} {x qual : Str} {st : Stmt} {f : Addr} {oc : Value} {od an : Option Addr} {osl : Array (Option Value)} {kV doc pm cdv ct : Value} (a : PySem.W.findIn K (.ref C) x = some (some (.ref f))) (i : PySem.W.isFn K (.ref f) = true)
    (l : K.lookup f = some ⟨oc, od, .func (PySem.W.fnOf x qual (defArgs st) (defBody st) (defScope st) .none kV doc pm an cdv ct), osl⟩) (c : PySem.W.codeIn K cdv qual = true) (k : PySem.W.keepIn K (.ref f) = true) : AtM K C x qual st := ⟨f, _, fun_mk l c k, ⟨a, i, k⟩⟩
theorem atI_mk {K : PySem.W.Frag} {mg : Str → Option Value} {C : Addr} {x qual : Str} {st : Stmt} {f : Addr} {oc : Value} {od an : Option Addr} {osl : Array (Option Value)} {kV doc pm cdv ct : Value} (g : mg x = some (.ref C)) (mk : PySem.W.makesIn K C = true) (kc : PySem.W.keepIn K (.ref C) = true) (a : PySem.W.findIn K (.ref C) "__init__" = some (some (.ref f))) (i : PySem.W.isFn K (.ref f) = true)
    (l : K.lookup f = some ⟨oc, od, .func (PySem.W.fnOf "__init__" qual (defArgs st) (defBody st) (defScope st) .none kV doc pm an cdv ct), osl⟩) (c : PySem.W.codeIn K cdv qual = true) (k : PySem.W.keepIn K (.ref f) = true) : AtI K mg x C qual st [] :=
  ⟨f, _, ⟨⟨oc, od, _, kV, doc, pm, an, cdv, ct, osl, rfl, l, c, .inl ⟨rfl, rfl⟩, .inl rfl⟩, k⟩, ⟨mk, a, i, kc⟩, g⟩
theorem atI_mkD {K : PySem.W.Frag} {mg : Str → Option Value} {C : Addr} {x qual : Str} {st : Stmt} {f T : Addr} {oc cT : Value} {od an dT : Option Addr} {osl slT : Array (Option Value)} {kV doc pm cdv ct : Value} {its : Array Value} {nT : Nat} {dvs : List V} (g : mg x = some (.ref C)) (mk : PySem.W.makesIn K C = true) (kc : PySem.W.keepIn K (.ref C) = true) (a : PySem.W.findIn K (.ref C) "__init__" = some (some (.ref f))) (i : PySem.W.isFn K (.ref f) = true)
    (l : K.lookup f = some ⟨oc, od, .func (PySem.W.fnOf "__init__" qual (defArgs st) (defBody st) (defScope st) (.ref T) kV doc pm an cdv ct), osl⟩) (c : PySem.W.codeIn K cdv qual = true) (k : PySem.W.keepIn K (.ref f) = true) (lT : K.lookup T = some ⟨cT, dT, .seq its nT, slT⟩) (hd : dvs ≠ []) (r : Vals dvs its.toList) : AtI K mg x C qual st dvs :=
  ⟨f, _, ⟨⟨oc, od, _, kV, doc, pm, an, cdv, ct, osl, rfl, l, c, .inr ⟨hd, T, _, its.toList, nT, rfl, lT, by simp, r⟩, .inl rfl⟩, k⟩, ⟨mk, a, i, kc⟩, g⟩
theorem sqT_nil {K : PySem.W.Frag} {e : Addr} {dE : Option Addr} {nE : Nat} {slE : Array (Option Value)} (l : K.lookup e = some ⟨.type "tuple", dE, .seq #[] nE, slE⟩) : ∀ H, SqT K H e [] := fun _ => .inr ⟨_, #[], nE, l, rfl, rfl, Nat.zero_le _, .nil⟩

/-! Ky: dicts asked and written; walks by their items; two-fold comprehensions. -/
section
variable {σ : L2.St} {H : Hp} {Q : VK} {D : Ends} {td ty tv : TE} {K : PySem.W.Frag}
theorem w_dget (h : td σ H fun x H1 => ty σ H1 fun y H2 => ∃ a v, x = .ref a ∧ DGet H2 a y (some v) ∧ Q v H2) : tDGet td ty σ H Q := h
theorem w_din (h : ty σ H fun y H1 => td σ H1 fun x H2 => ∃ a o, x = .ref a ∧ DGet H2 a y o ∧ Q (.bl o.isSome) H2) : tDIn ty td σ H Q := h
theorem w_dnotin (h : ty σ H fun y H1 => td σ H1 fun x H2 => ∃ a o, x = .ref a ∧ DGet H2 a y o ∧ Q (.bl (!o.isSome)) H2) : tDNotIn ty td σ H Q := h
theorem w_dput (h : tv σ H fun v H1 => td σ H1 fun x H2 => ty σ H2 fun y H3 => ∃ a H4, x = .ref a ∧ DPut H3 a y v H4 ∧ D.nx σ H4) : sDPut td ty tv D σ H := h
theorem w_dnewK (h : New (.dK []) H Q) : tDNewK σ H Q := fun _ hp => h.go hp
/-- d[k] -/
theorem g_dk {a : Addr} {kvs : List (Key × V)} {v : V} (k : Key) (h : H a = some (.dK kvs)) (e : valV kvs k = some v) {y : V} (ey : y = kV k) (q : Q v H) : ∃ a' v', V.ref a = .ref a' ∧ DGet H a' y (some v') ∧ Q v' H := ⟨a, v, rfl, .inl ⟨kvs, k, .inl h, ey, e.symm⟩, q⟩
/-- k in d -/
theorem g_in {a : Addr} {kvs : List (Key × V)} (k : Key) (h : H a = some (.dK kvs)) {y : V} (ey : y = kV k) {n : Bool → Bool} (q : Q (.bl (n (valV kvs k).isSome)) H) : ∃ a' o, V.ref a = .ref a' ∧ DGet H a' y o ∧ Q (.bl (n o.isSome)) H := ⟨a, valV kvs k, rfl, .inl ⟨kvs, k, .inl h, ey, rfl⟩, q⟩
/-- the same of a dict that is locked -/
theorem g_inF {a : Addr} {kvs : List (Key × V)} {od : Obj} (k : Key) (h : H a = some (.frz od (.dK kvs))) {y : V} (ey : y = kV k) {n : Bool → Bool} (q : Q (.bl (n (valV kvs k).isSome)) H) : ∃ a' o, V.ref a = .ref a' ∧ DGet H a' y o ∧ Q (.bl (n o.isSome)) H := ⟨a, valV kvs k, rfl, .inl ⟨kvs, k, .inr ⟨od, h⟩, ey, rfl⟩, q⟩
/-- d[k] = v -/
theorem g_put {a : Addr} {kvs : List (Key × V)} {v : V} (k : Key) {R : Hp → Prop} (h : H a = some (.dK kvs)) (hz : kvs.length ≤ 1000000) {y : V} (ey : y = kV k) (q : R (upd H a (.dK (putK kvs k v)))) : ∃ a' H4, V.ref a = .ref a' ∧ DPut H a' y v H4 ∧ R H4 :=
  ⟨a, _, rfl, .inl ⟨kvs, k, h, ey, by have h2 : (sizeLine : Nat) = 16777216 := sizeLine_eq; omega, rfl⟩, q⟩
end
instance decMemKey (k : Key) (l : List Key) : Decidable (k ∈ l) := decidable_of_iff (l.any (fun x => decide (x = k)) = true) (by simp)
theorem valV_isSome {kvs : List (Key × V)} {k : Key} : (valV kvs k).isSome = decide (k ∈ kvs.map (·.1)) := by
  by_cases h : k ∈ kvs.map (·.1)
  · rw [decide_eq_true h]
    cases e : valV kvs k with
    | some v => rfl
    | none =>
      exfalso
      unfold valV at e
      rw [Option.map_eq_none_iff, List.find?_eq_none] at e
      obtain ⟨p, hp, rfl⟩ := List.mem_map.mp h
      exact e p hp (by simp)
  · rw [decide_eq_false h, valV_none h]
    rfl
/-! ### walks by their items -/
def sgn (c : Nat) : V := .str ⟨#[c]⟩
theorem walkV_str {z : Str} : Walk (Its z) (z.cps.toList.map sgn).length (fun _ => True) (YAt (z.cps.toList.map sgn)) := by
  have w := (walk_str (z := z)).mono (G' := fun _ => True) (Y' := YAt (z.cps.toList.map sgn)) (fun _ h => h) (fun i H x H' hi _ y => by
    obtain ⟨e, c, hc, rfl⟩ := y
    refine ⟨e, ?_⟩
    rw [List.getElem?_map]
    have : z.cps.toList[i]? = some c := by simpa using hc
    rw [this]; rfl)
  have e : (z.cps.toList.map sgn).length = z.cps.size := by simp
  rw [e]; exact w
theorem walkV_keys {d : Addr} {o : Obj} {kvs : List (Key × V)} : Walk (Itk d o kvs) (kvs.map fun kv => kV kv.1).length (fun H => H d = some (.frz o (.dK kvs))) (YAt (kvs.map fun kv => kV kv.1)) := by
  have w := (walk_keys (d := d) (o := o) (kvs := kvs)).mono (G' := fun H => H d = some (.frz o (.dK kvs))) (Y' := YAt (kvs.map fun kv => kV kv.1)) (fun _ h => h) (fun i H x H' hi _ y => by
    obtain ⟨e, k, v, hk, rfl⟩ := y
    refine ⟨e, ?_⟩
    rw [List.getElem?_map, hk]; rfl)
  rw [List.length_map]; exact w
theorem walkV_vals {d : Addr} {o : Obj} {kvs : List (Key × V)} : Walk (Itd d o kvs) (kvs.map (·.2)).length (fun H => H d = some (.frz o (.dK kvs))) (YAt (kvs.map (·.2))) := by
  have w := (walk_values (d := d) (o := o) (kvs := kvs)).mono (G' := fun H => H d = some (.frz o (.dK kvs))) (Y' := YAt (kvs.map (·.2))) (fun _ h => h) (fun i H x H' hi _ y => by
    obtain ⟨e, k, hk⟩ := y
    refine ⟨e, ?_⟩
    rw [List.getElem?_map, hk]; rfl)
  rw [List.length_map]; exact w
theorem walkV_rng {lo : Int} {n : Nat} : Walk (Itr lo n) ((List.range n).map fun i => V.int (lo + (i : Nat))).length (fun _ => True) (YAt ((List.range n).map fun i => V.int (lo + (i : Nat)))) := by
  have w := (walk_range (lo := lo) (n := n)).mono (G' := fun _ => True) (Y' := YAt ((List.range n).map fun i => V.int (lo + (i : Nat)))) (fun _ h => h) (fun i H x H' hi _ y => by
    obtain ⟨e, rfl⟩ := y
    refine ⟨e, ?_⟩
    rw [List.getElem?_map]
    simp [hi])
  have e : ((List.range n).map fun i => V.int (lo + (i : Nat))).length = n := by simp
  rw [e]; exact w
/-! ### two-fold comprehensions -/
section
variable {J : It} {n : Nat} {G : Hp → Prop} {Y : Nat → Hp → V → Hp → Prop} {g g1 : TG} {tt tt1 : TT} {te : TE} {wi wi1 : TI} {vs vs1 : List Nat} {σ : L2.St} {H H1 : Hp} {D : Addr} {Qd : Hp → Prop} {Q : VK}
/-- the inner loop; N: what is wanted behind it -/
def Inner (g1 : TG) (tt1 : TT) (te : TE) (vs1 : List Nat) (σ2 : L2.St) (D : Addr) (N : Hp → Prop) (J1 : It) (H4 : Hp) : Prop := ∃ W1 : Nat → Nat → Hp → Prop, (∃ m, W1 0 m H4) ∧ ∀ j k H, W1 j k H →
  (J1.stop j H ∧ N H) ∨ (J1.go j H ∧ ∃ Nx1 : Hp → Prop, (∀ H', Nx1 H' → ∃ k', k' < k ∧ W1 (j + 1) k' H') ∧ ∀ x H', J1.yld j H x H' → g1 x (wipe σ2 vs1) H' fun σ3 H5 => wipe σ3 vs1 = wipe σ2 vs1 ∧ tt1 σ3 H5 fun b H6 =>
    if b = true then te σ3 H6 fun y H7 => ∃ acc, H7 D = some (.lst acc) ∧ acc.length < sizeLine ∧ Nx1 (upd H7 D (.lst (acc ++ [y]))) else Nx1 H6)
theorem w_lc2 (h : wi σ H fun J H1 => ∀ D, H1 D = none → ∃ W : Nat → Nat → Hp → Prop, (∃ m, W 0 m (upd H1 D (.lst []))) ∧ ∀ i m H, W i m H →
  (J.stop i H ∧ Q (.ref D) H) ∨ (J.go i H ∧ ∃ Nx : Hp → Prop, (∀ H', Nx H' → ∃ m', m' < m ∧ W (i + 1) m' H') ∧ ∀ x H', J.yld i H x H' → g x (wipe σ vs) H' fun σ2 H2 => wipe σ2 vs = wipe σ vs ∧ tt σ2 H2 fun b H3 =>
    if b = true then wi1 σ2 H3 (Inner g1 tt1 te vs1 σ2 D Nx) else Nx H3)) : tLc2 wi g tt wi1 g1 tt1 te vs vs1 σ H Q := h
theorem lc2_it (w : Walk J n G Y) (Pv : Nat → Hp → Prop) (h0 : Pv 0 (upd H1 D (.lst []))) (hG : ∀ i H, i ≤ n → Pv i H → G H)
    (hs : ∀ i x H H', i < n → Pv i H → Y i H x H' → g x (wipe σ vs) H' fun σ2 H2 => wipe σ2 vs = wipe σ vs ∧ tt σ2 H2 fun b H3 => if b = true then wi1 σ2 H3 (Inner g1 tt1 te vs1 σ2 D (Pv (i + 1))) else Pv (i + 1) H3) (hd : ∀ H, Pv n H → Qd H) :
    ∃ W : Nat → Nat → Hp → Prop, (∃ m, W 0 m (upd H1 D (.lst []))) ∧ ∀ i m H, W i m H →
      (J.stop i H ∧ Qd H) ∨ (J.go i H ∧ ∃ Nx : Hp → Prop, (∀ H', Nx H' → ∃ m', m' < m ∧ W (i + 1) m' H') ∧ ∀ x H', J.yld i H x H' → g x (wipe σ vs) H' fun σ2 H2 => wipe σ2 vs = wipe σ vs ∧ tt σ2 H2 fun b H3 =>
        if b = true then wi1 σ2 H3 (Inner g1 tt1 te vs1 σ2 D Nx) else Nx H3) := by
  refine ⟨fun i m H => m = n - i ∧ i ≤ n ∧ Pv i H, ⟨n, by simp, Nat.zero_le _, h0⟩, ?_⟩
  rintro i m H ⟨rfl, hi, p⟩
  have q := hG i H hi p
  by_cases hlt : i < n
  · exact .inr ⟨w.goes i H hlt q, Pv (i + 1), fun H' p' => ⟨n - (i + 1), by omega, rfl, hlt, p'⟩, fun x H' y => hs i x H H' hlt p (w.yields i H x H' hlt q y)⟩
  · have e : i = n := by omega
    subst e
    exact .inl ⟨w.stops H q, hd H p⟩
/-- the inner loop without a test, what it gives told by the item -/
theorem inner_M {ys : List V} (w : Walk J ys.length G (YAt ys)) (f : V → V) (acc : List V) {σ2 : L2.St} {N : Hp → Prop} (hz : acc.length + ys.length ≤ 10000000) (eD : H1 D = some (.lst acc)) (hG : ∀ H, Kp [D] H1 H → G H)
    (hs : ∀ y H' (Ky : V → Hp → Prop), y ∈ ys → Kp [D] H1 H' → (∀ H4, Same H' H4 → Ky (f y) H4) → g1 y (wipe σ2 vs1) H' fun σ3 H5 => wipe σ3 vs1 = wipe σ2 vs1 ∧ te σ3 H5 Ky)
    (hd : ∀ H', Kp [D] H1 H' → H' D = some (.lst (acc ++ ys.map f)) → N H') : Inner g1 tYes te vs1 σ2 D N J H1 := by
  refine ⟨fun i m H => m = ys.length - i ∧ i ≤ ys.length ∧ Kp [D] H1 H ∧ H D = some (.lst (acc ++ (ys.take i).map f)), ⟨ys.length, by simp, Nat.zero_le _, Same.refl _, by simpa using eD⟩, ?_⟩
  rintro i m H ⟨rfl, hi, k, e⟩
  have q := hG H k
  by_cases hlt : i < ys.length
  · refine .inr ⟨w.goes i H hlt q, fun H' => Kp [D] H1 H' ∧ H' D = some (.lst (acc ++ (ys.take (i + 1)).map f)), fun H' p' => ⟨ys.length - (i + 1), by omega, rfl, hlt, p'⟩, fun x H' y => ?_⟩
    obtain ⟨rfl, hx⟩ := w.yields i H x H' hlt q y

    have key2 := hs x H' (fun y H7 => ∃ acc', H7 D = some (.lst acc') ∧ acc'.length < sizeLine ∧ (Kp [D] H1 (upd H7 D (.lst (acc' ++ [y]))) ∧ (upd H7 D (.lst (acc' ++ [y]))) D = some (.lst (acc ++ (ys.take (i + 1)).map f)))) (List.mem_of_getElem? hx) k
      (fun H4 s4 => ⟨_, s4 _ _ e, by
        have h2 : (sizeLine : Nat) = 16777216 := sizeLine_eq
        rw [List.length_append, List.length_map, List.length_take]
        omega, kp_put (k.trans (same_wo s4 [D])) List.mem_cons_self, by
        rw [upd_same, take_more' hx, List.map_append, List.append_assoc]
        rfl⟩)
    exact key2
  · have e' : i = ys.length := by omega
    subst e'
    exact .inl ⟨w.stops H q, hd H k (by rw [e, List.take_length])⟩
/-- both loops without tests: F x the list of the inner items' values -/
theorem lc2_M {xs : List V} (w : Walk J xs.length G (YAt xs)) (F : V → List V) (hD : H1 D = none) (hG : ∀ H, Same H1 H → G H)
    (hs : ∀ x H (acc : List V) (N : Hp → Prop), x ∈ xs → Same H1 H → H D = some (.lst acc) → acc.length ≤ (xs.flatMap F).length → (∀ H4 H', Same H H4 → Kp [D] H4 H' → H' D = some (.lst (acc ++ F x)) → N H') →
      g x (wipe σ vs) H fun σ2 H2 => wipe σ2 vs = wipe σ vs ∧ wi1 σ2 H2 (Inner g1 tt1 te vs1 σ2 D N))
    (hd : ∀ H', Same H1 H' → H' D = some (.lst (xs.flatMap F)) → Qd H') :
    ∃ W : Nat → Nat → Hp → Prop, (∃ m, W 0 m (upd H1 D (.lst []))) ∧ ∀ i m H, W i m H →
      (J.stop i H ∧ Qd H) ∨ (J.go i H ∧ ∃ Nx : Hp → Prop, (∀ H', Nx H' → ∃ m', m' < m ∧ W (i + 1) m' H') ∧ ∀ x H', J.yld i H x H' → g x (wipe σ vs) H' fun σ2 H2 => wipe σ2 vs = wipe σ vs ∧ tYes σ2 H2 fun b H3 =>
        if b = true then wi1 σ2 H3 (Inner g1 tt1 te vs1 σ2 D Nx) else Nx H3) := by
  refine lc2_it w (fun i H => Same H1 H ∧ H D = some (.lst ((xs.take i).flatMap F))) ⟨same_upd hD, by rw [upd_same]; simp⟩ (fun _ H _ h => hG H h.1) ?_ (fun H h => hd H h.1 (by have := h.2; rw [List.take_length] at this; exact this))
  rintro i x H H' hi ⟨s1, e⟩ ⟨rfl, hx⟩
  have key := hs x H' _ (fun H => Same H1 H ∧ H D = some (.lst ((xs.take (i + 1)).flatMap F))) (List.mem_of_getElem? hx) s1 e ?_ (fun H4 H5 s4 k e5 => ⟨?_, ?_⟩)
  · exact key
  · have h : xs = xs.take i ++ xs.drop i := (List.take_append_drop i xs).symm
    have h2 : (xs.flatMap F).length = ((xs.take i).flatMap F).length + ((xs.drop i).flatMap F).length := by
      conv => lhs; rw [h, List.flatMap_append, List.length_append]
    omega
  · exact same_kp1 (s1.trans s4) hD k
  · rw [e5, take_more' hx, List.flatMap_append]
    simp
end
section
variable {K : PySem.W.Frag} {ta tv : TE} {f : Str} {σ : L2.St} {H : Hp} {Q : VK} {D : Ends}
theorem w_fld (h : ta σ H fun x H1 => ∃ a C dx fs v, x = .ref a ∧ H1 a = some (.ins C dx fs) ∧ Cls K C ∧ NoAttr K C f ∧ fs.lookup f = some v ∧ Q v H1) : tFld K ta f σ H Q := h
theorem w_sfld (h : tv σ H fun y H1 => ta σ H1 fun x H2 => ∃ a C dx fs, x = .ref a ∧ H2 a = some (.ins C dx fs) ∧ Cls K C ∧ NoAttr K C f ∧ fs.length < 1000 ∧ D.nx σ (upd H2 a (.ins C dx (putF f y fs)))) : sFld K ta tv f D σ H := h
end
theorem _root_.L2.Room.units1 {k : Nat} {A : Around} (r : Room k A) : A.units + 1 < cLine := by have := r.un; omega
section
variable {X : Cx} {K : PySem.W.Frag} {tg l e e2 : Expr} {tl ta : TE} {f : Str} {pos : Pos}
theorem piL (hl : PE X l tl) (h : X.K = K := by rfl) : PI X tg l (iList K tl) := by subst h; exact pi_list hl
theorem piT (hl : PE X l tl) (h : X.K = K := by rfl) : PI X tg l (iTup K tl) := by subst h; exact pi_tup hl
theorem pe_fldK (he : PE X e ta) (hb : attributeBase e f X.env (eval e X.env) = eval e X.env) (h : X.K = K := by rfl) : PE X (.Attribute e f pos) (tFld K ta f) := by subst h; exact pe_fld he hb
end
theorem pg_tupK {X : Cx} {K : PySem.W.Frag} {es : List Expr} {k : Nat} {t : TGs} {n : Nat} {pos : Pos} (hc : X.calm = true) (h : PGs X es t) (hK : X.K = K := by rfl)
    (hn : (assignEach es X.env).length = n := by rfl) (hst : (assignEach es X.env).findIdx? (·.1) = none := by rfl) : PG X (.Tuple es k pos) (gTup K n t) := by subst hK; exact pg_tup hc h hn hst
/-! ### any object, looked at from outside -/
inductive ShV (H : Hp) : V → Prop where
  | non : ShV H .non
  | bl (b : Bool) : ShV H (.bl b)
  | int (i : Int) : ShV H (.int i)
  | str (x : Str) (hx : okS x) : ShV H (.str x)
  | lst {a : Addr} {xs : List V} (h : H a = some (.lst xs)) : ShV H (.ref a)
  | tup {a : Addr} {xs : List V} (h : H a = some (.tup xs)) : ShV H (.ref a)
  | dK {a : Addr} {kvs : List (Key × V)} (h : H a = some (.dK kvs)) : ShV H (.ref a)
  | fr {a : Addr} {od : Obj} {kvs : List (Key × V)} (h : H a = some (.frz od (.dK kvs))) : ShV H (.ref a)
theorem ShV.keep {H H' : Hp} {v : V} (s : Same H H') (h : ShV H v) : ShV H' v := by
  cases h with
  | non => exact .non
  | bl b => exact .bl b
  | int i => exact .int i
  | str x hx => exact .str x hx
  | lst h => exact .lst (s _ _ h)
  | tup h => exact .tup (s _ _ h)
  | dK h => exact .dK (s _ _ h)
  | fr h => exact .fr (s _ _ h)
theorem _root_.Kc.AnyV.sh {H : Hp} {v : V} (h : AnyV H v) : ShV H v := by
  cases h with
  | non => exact .non
  | bl b => exact .bl b
  | int i => exact .int i
  | str x hx => exact .str x hx
  | lst h _ _ => exact .lst h
  | tup h _ _ => exact .tup h
  | dK h _ _ _ => exact .dK h
theorem ShV.lock {H : Hp} {v : V} {a : Addr} {od : Obj} {kvs : List (Key × V)} (ha : H a = some (.dK kvs)) (h : ShV H v) : ShV (upd H a (.frz od (.dK kvs))) v := by
  have go : ∀ {b : Addr} {o : HO}, b ≠ a → H b = some o → upd H a (.frz od (.dK kvs)) b = some o := fun ne e => by rw [upd_ne ne]; exact e
  cases h with
  | non => exact .non
  | bl b => exact .bl b
  | int i => exact .int i
  | str x hx => exact .str x hx
  | @lst b xs h => exact .lst (go (fun z => by rw [z, ha] at h; cases h) h)
  | @tup b xs h => exact .tup (go (fun z => by rw [z, ha] at h; cases h) h)
  | @dK b xs h =>
    by_cases z : b = a
    · rw [z]; exact .fr upd_same
    · exact .dK (go z h)
  | @fr b od' xs h => exact .fr (go (fun z => by rw [z, ha] at h; cases h) h)
theorem ShV.okS {H : Hp} {x : Str} (h : ShV H (.str x)) : okS x := by
  cases h with
  | str _ hx => exact hx
def shT (H : Hp) : V → String
  | .non => "NoneType"
  | .bl _ => "bool"
  | .int _ => "int"
  | .str _ => "str"
  | .ref a => match H a with
    | some (.lst _) => "list"
    | some (.tup _) => "tuple"
    | _ => "dict"
  | _ => "dict"
theorem ShV.ty {K : PySem.W.Frag} {H : Hp} {v : V} (h : ShV H v) : TyX K H v (.type (shT H v)) := by
  cases h with
  | non => exact .base .non
  | bl b => exact .base (.bl b)
  | int i => exact .base (.int i)
  | str x _ => exact .base (.str x)
  | lst h => have e := h; simp only [shT, e]; exact .base (.lst h)
  | tup h => have e := h; simp only [shT, e]; exact .base (.tup h)
  | dK h => have e := h; simp only [shT, e]; exact .base (.dK h)
  | fr h => have e := h; simp only [shT, e]; exact .fDict h
theorem shT_is (H : Hp) (v : V) : shT H v = "NoneType" ∨ shT H v = "bool" ∨ shT H v = "int" ∨ shT H v = "str" ∨ shT H v = "list" ∨ shT H v = "tuple" ∨ shT H v = "dict" := by
  unfold shT
  split <;> first | simp | (split <;> simp)
section
variable {K : PySem.W.Frag} {H : Hp} {v : V} {Q : VK}
theorem sh_str (h : ShV H v) (q : Q (.bl (isS v)) H) : rIsi K [v, .ty "str"] H Q := by
  refine isi_of h.ty ?_ q
  have e : isS v = decide (shT H v = "str") := by cases h <;> simp_all [isS, shT]
  rw [e]
  rcases shT_is H v with z | z | z | z | z | z | z <;> rw [z] <;> decide +kernel
theorem sh_int (h : ShV H v) (q : Q (.bl (isI v)) H) : rIsi K [v, .ty "int"] H Q := by
  refine isi_of h.ty ?_ q
  have e : isI v = (decide (shT H v = "int") || decide (shT H v = "bool")) := by cases h <;> simp_all [isI, shT]
  rw [e]
  rcases shT_is H v with z | z | z | z | z | z | z <;> rw [z] <;> decide +kernel
theorem sh_bool (h : ShV H v) (q : Q (.bl (isB v)) H) : rIsi K [v, .ty "bool"] H Q := by
  refine isi_of h.ty ?_ q
  have e : isB v = decide (shT H v = "bool") := by cases h <;> simp_all [isB, shT]
  rw [e]
  rcases shT_is H v with z | z | z | z | z | z | z <;> rw [z] <;> decide +kernel
end
theorem w_lvals {te : TE} {σ : L2.St} {H : Hp} {Q : VK} (h : te σ H fun x H1 => ∃ d kvs, x = .ref d ∧ H1 d = some (.dK kvs) ∧ New (.lst (kvs.map (·.2))) H1 Q) : tListVals te σ H Q := h
theorem w_dnew {σ : L2.St} {H : Hp} {Q : VK} (h : New (.dK []) H Q) : tDNewK σ H Q := fun _ hp => h.go hp

/-! Kz: sorted(..) of texts in a list, a tuple, a dict. -/
section
variable {prog : Program} {w : World} {A : Around} {E : Value → Shared → Prop} {s : Shared}
/-- a tuple's items laid into a list -/
theorem collect_tup {l : Addr} {o : Obj} {vs : List Value} {n : Nat} {Q : List Value → Shared → Prop} (ho : s.heap.get? l = some o) (hc : o.cls = .type "tuple") (hd : o.data = .seq vs.toArray n) (hsz : vs.length ≤ sizeLine)
    (h : Q vs { s with heap := (s.heap.push (seqObj "list" #[] 0)).update s.heap.objs.size (Obj.mapSeq (· ++ vs.toArray)) }) : wpAny (model prog w) A (collect (.ref l)) Q E s := by
  unfold collect
  refine wpAny_bind (wpAny_runValue (codeAny_builtin entry_proto_collect' ?_))
  change wpAny _ _ (do again (.builtin "list.__iadd__" ⟨[← newList [], .ref l], []⟩)) _ _ s
  refine wpAny_bind (wpAny_newList ?_)
  refine wpAny_pure ⟨Code.quiet_builtin _ (by decide +kernel), ?_⟩
  refine codeAny_builtin entry_list_iadd' ?_
  have h1 : (s.heap.push (seqObj "list" #[] 0)).get? l = some o := Heap.get?_push_of_some _ ho
  have h2 : (s.heap.push (seqObj "list" #[] 0)).get? s.heap.objs.size = some (seqObj "list" #[] 0) := Heap.get?_push_size _ rfl
  change wpAny _ _ (Builtin.List.listExtendWith (.ref s.heap.objs.size) (.ref l) (.ref s.heap.objs.size)) _ _ _
  unfold Builtin.List.listExtendWith
  refine wpAny_bind (wpAny_typeOf (T := "tuple") ⟨o, h1, hc⟩ ?_)
  rw [if_pos (by first | rfl | simp | decide)]
  refine wpAny_bind (listItems_at h1 hd ?_)
  refine wpAny_bind (listItems_at (xs := #[]) (n := 0) h2 rfl ?_)
  rw [if_neg (by simp)]
  refine wpAny_bind (listUpdate_at (xs := #[]) (n := 0) h2 rfl ?_ (Nat.zero_le _) (by change (#[] ++ vs.toArray).size ≤ sizeLine + 1; simp; omega))
  refine wpAny_pure ?_
  change wpAny (model prog w) A (do
      let o ← load s.heap.objs.size
      match o.data with
      | .seq xs _ => pure xs.toList
      | _ => unsupported "internal:collect") Q E { s with heap := (s.heap.push (seqObj "list" #[] 0)).update s.heap.objs.size (Obj.mapSeq (· ++ vs.toArray)) }
  refine wpAny_bind (wpAny_load (get?_update_seq h2 _) ?_)
  change wpAny _ _ (pure ((#[] : Array Value) ++ vs.toArray).toList) Q E _
  have e : ((#[] : Array Value) ++ vs.toArray).toList = vs := by simp
  rw [e]
  exact wpAny_pure h
theorem sorted_strsT {l : Addr} {o : Obj} {vs : List Value} {n : Nat} {ss : List Str} {Q : Value → Shared → Prop} (ho : s.heap.get? l = some o) (hc : o.cls = .type "tuple") (hd : o.data = .seq vs.toArray n) (hS : StrsAre vs ss) (hL : vs.length ≤ sizeLine)
    (h : ∀ (out : Array Value) (ys : List Str), StrsAre out.toList ys → ys.Perm ss → sortedS ys = true → Q (.ref (s.heap.objs.size + 1)) { s with heap := sortedAll s.heap vs out }) : wpAny (model prog w) A (call (.builtin "sorted") [.ref l]) Q E s := by
  refine Calls.call_function_entry PyProof.Rows.kind_sorted PyProof.Rows.plain_sorted PyProof.Rows.entry_sorted (PyProof.Rows.args_sorted1 _) ?_
  unfold Builtin.«sorted»
  refine wpAny_bind (m := checkCount "sorted" 1 1 _) (wpAny_pure ?_)
  refine wpAny_bind (collect_tup ho hc hd hL ?_)
  refine wpAny_bind (wpAny_newList ?_)
  have hsz : ((s.heap.push (seqObj "list" #[] 0)).update s.heap.objs.size (Obj.mapSeq (· ++ vs.toArray))).objs.size = s.heap.objs.size + 1 := by rw [Heap.size_update, size_push']
  have hoL : (((s.heap.push (seqObj "list" #[] 0)).update s.heap.objs.size (Obj.mapSeq (· ++ vs.toArray))).push (seqObj "list" vs.toArray 0)).get? (s.heap.objs.size + 1) = some (seqObj "list" vs.toArray 0) := by
    have z : (((s.heap.push (seqObj "list" #[] 0)).update s.heap.objs.size (Obj.mapSeq (· ++ vs.toArray))).push (seqObj "list" vs.toArray 0)).get? ((s.heap.push (seqObj "list" #[] 0)).update s.heap.objs.size (Obj.mapSeq (· ++ vs.toArray))).objs.size = some (seqObj "list" vs.toArray 0) := Heap.get?_push_size _ rfl
    rwa [hsz] at z
  change wpAny _ _ _ _ _ { s with heap := ((s.heap.push (seqObj "list" #[] 0)).update s.heap.objs.size (Obj.mapSeq (· ++ vs.toArray))).push (seqObj "list" vs.toArray 0) }
  rw [hsz]
  refine wpAny_bind (wpAny_holding (wpAny_call_entry PyProof.Rows.slot_list_sort ⟨_, hoL, rfl⟩ PyProof.Rows.entry_list_sort (list_sort_treeKAny strKind_oneLt hoL hS.keysOf (fun v₁ v₂ rest e => keyKind_strs (by rw [← e]; exact hS)) hL fun st' a1 a2 => ⟨_, rfl, ?_⟩) (PyProof.Rows.args_list_sort _)))
  obtain ⟨ys, h1, h2, h3⟩ := sorted_out_str hS a1 a2
  exact wpAny_pure ⟨_, rfl, h _ ys h1 h2 h3⟩
end
def rSortedA (K : PySem.W.Frag) : List V → Hp → VK → Prop := fun vs H Q => ∃ (a : Addr) (xs : List Str), vs = [V.ref a] ∧ (SqL K H a (xs.map V.str) ∨ SqT K H a (xs.map V.str)) ∧ xs.length ≤ 1000000 ∧ ∀ ys : List Str, ys.Perm xs → sortedS ys = true → New (.lst (ys.map V.str)) H Q
def rSortedDk : List V → Hp → VK → Prop := fun xs H Q => ∃ (a : Addr) (kvs : List (Key × V)) (ks : List Str), xs = [.ref a] ∧ Rd H a (.dK kvs) ∧ kvs.map (·.1) = ks.map Sum.inr ∧ ks.length < 64 ∧ ∀ ys p, ys.Perm ks → sortedS ys = true → H p = none → Q (.ref p) (upd H p (.lst (ys.map V.str)))
section
variable {X : Cx} {K : PySem.W.Frag}
theorem cr_sortedA (hK : X.K = K := by rfl) : CallR X (.builtin "sorted") (rSortedA K) := by
  subst hK
  intro pins s σ H vs us Q I r h
  obtain ⟨a, xs, rfl, hs, hz, q⟩ := h
  have h2 : (sizeLine : Nat) = 16777216 := sizeLine_eq
  have fin : ∀ (its : List Value), (xs.map V.str).length = its.length → ∀ (out : Array Value) (ys : List Str), StrsAre out.toList ys → ys.Perm xs → sortedS ys = true → EP X pins σ Q (.ref (s.heap.objs.size + 1)) { s with heap := sortedAll s.heap its out } := fun its hl out ys h1 h2' h3 => by
    obtain ⟨ep, he'⟩ := PyProof.Rows.sortedAll_at s.heap its out
    have hlen : (ys.map V.str).length ≤ sizeLine := by rw [List.length_map, h2'.length_eq]; omega
    exact ⟨.ref _, upd H (s.heap.objs.size + 1) (.lst (ys.map V.str)), I.laid (t' := s.toks) (fun _ _ => PyProof.Rows.sortedAll_old) (Nat.le_succ _) ⟨hlen, out.toList, ep, vals_of_strs h1, he'⟩, rfl, (q ys h2' h3).go (I.hok.fresh (Nat.le_succ _))⟩
  rcases hs with hs | hs
  · obtain ⟨its, rv, hl, _⟩ := I.list hs
    have e := rv.length
    rw [Vals.ref1 r]
    refine PyProof.Rows.sorted_strsAny hl.isList rv.strs (by rw [← e, List.length_map]; omega) fun out ys h1 h2 h3 => fin its e out ys h1 h2 h3
  · obtain ⟨its, rv, ⟨o, ho, hc, n, hd⟩, _⟩ := I.tuple hs
    have e := rv.length
    rw [Vals.ref1 r]
    refine sorted_strsT ho hc hd rv.strs (by rw [← e, List.length_map]; omega) fun out ys h1 h2 h3 => fin its e out ys h1 h2 h3
theorem cr_sortedDk (hc : X.calm = true) : CallR X (.builtin "sorted") rSortedDk := call_sortedD hc
variable {H : Hp} {Q : VK}
theorem w_sortedL {a : Addr} {xs : List Str} (ha : SqL K H a (xs.map V.str)) (hz : xs.length ≤ 1000000) (h : ∀ ys : List Str, ys.Perm xs → sortedS ys = true → New (.lst (ys.map V.str)) H Q) : rSortedA K [.ref a] H Q := ⟨a, xs, rfl, .inl ha, hz, h⟩
theorem w_sortedT {a : Addr} {xs : List Str} (ha : SqT K H a (xs.map V.str)) (hz : xs.length ≤ 1000000) (h : ∀ ys : List Str, ys.Perm xs → sortedS ys = true → New (.lst (ys.map V.str)) H Q) : rSortedA K [.ref a] H Q := ⟨a, xs, rfl, .inr ha, hz, h⟩
theorem w_sortedD {a : Addr} {kvs : List (Key × V)} (ks : List Str) (ha : H a = some (.dK kvs)) (hk : kvs.map (·.1) = ks.map Sum.inr) (h64 : ks.length < 64) (h : ∀ ys : List Str, ys.Perm ks → sortedS ys = true → New (.lst (ys.map V.str)) H Q) : rSortedDk [.ref a] H Q :=
  ⟨a, kvs, ks, rfl, .inl ha, hk, h64, fun ys p h1 h2 hp => (h ys h1 h2).go hp⟩
/-- dict(d), d a dict -/
def rDictD : List V → Hp → VK → Prop := fun xs H Q => ∃ (a : Addr) (kvs : List (Key × V)), xs = [.ref a] ∧ Rd H a (.dK kvs) ∧ ∀ p, H p = none → Q (.ref p) (upd H p (.dK kvs))
theorem cr_dictD : CallR X (.type "dict") rDictD := call_dictD
theorem w_dictD {a : Addr} {kvs : List (Key × V)} (ha : H a = some (.dK kvs)) (h : New (.dK kvs) H Q) : rDictD [.ref a] H Q := ⟨a, kvs, rfl, .inl ha, fun _ hp => h.go hp⟩
/-- list(d), d a dict -/
def rLenD : List V → Hp → VK → Prop := fun xs H Q => ∃ a kvs, xs = [V.ref a] ∧ H a = some (.dK kvs) ∧ Q (.int kvs.length) H
theorem cr_lenD {X : Cx} : CallR X (.builtin "len") rLenD := call_lenD
theorem w_lenD {a : Addr} {kvs : List (Key × V)} (h : H a = some (.dK kvs)) (q : Q (.int kvs.length) H) : rLenD [.ref a] H Q := ⟨a, kvs, rfl, h, q⟩
end
/-! ### a list or a tuple, walked -/
def Sq (K : PySem.W.Frag) (H : Hp) (a : Addr) (xs : List V) : Prop := SqL K H a xs ∨ SqT K H a xs
theorem Sq.keep {K : PySem.W.Frag} {H H' : Hp} {a : Addr} {xs : List V} (s : Same H H') (h : Sq K H a xs) : Sq K H' a xs := h.elim (fun z => .inl (s.seq z)) fun z => .inr (SqT.ext z s)
def SqR (K : PySem.W.Frag) (H1 : Hp) (R : It → Hp → Prop) (x : V) : Prop := ∃ a xs, x = .ref a ∧ ((SqL K H1 a xs ∧ R (Itl K a) H1) ∨ (SqT K H1 a xs ∧ R (Itt K a) H1))
def iSeq (K : PySem.W.Frag) (tl : TE) : TI := fun σ H R => tl σ H fun x H1 => SqR K H1 R x
theorem piS {X : Cx} {K : PySem.W.Frag} {tg l : Expr} {tl : TE} (hl : PE X l tl) (hK : X.K = K := by rfl) : PI X tg l (iSeq K tl) := by
  subst hK
  refine ⟨fun pins s σ H R I h => thn (hl.run pins s σ H _ I h) fun v s1 ⟨x, H1, I1, r1, a, xs, ex, q⟩ => ?_⟩
  subst ex
  cases r1
  have J := I1.kept (t' := s1.toks) (h' := s1.heap.push { cls := .type "list_iterator", data := .fields #[.ref a, .int 0 0] }) fun b o e => Heap.get?_push_of_some _ e
  have nw : ∀ b ∈ [s1.heap.objs.size], FpOk X pins H1 b := fun b hb => by
    have e : b = s1.heap.objs.size := by simpa using hb
    rw [e]
    exact I1.fpOk (Nat.le_refl _) (I1.hok.fresh (Nat.le_refl _))
  rcases q with ⟨hq, q⟩ | ⟨hq, q⟩
  · obtain ⟨its, rv, p, hz⟩ := I1.list hq
    exact wpAny_pyIter_list p.isList ⟨s1.heap.objs.size, [s1.heap.objs.size], _, _, H1, rfl, I1.kept (t' := s1.toks) fun b o e => Heap.get?_push_of_some _ e, turn_list a _, ⟨_, Heap.get?_push_size _ rfl, rfl, rfl⟩, nw, q⟩
  · obtain ⟨its, rv, p, hz⟩ := I1.tuple hq
    exact wpAny_pyIter_tuple (show s1.heap.IsTuple a its.toArray from p) ⟨s1.heap.objs.size, [s1.heap.objs.size], _, _, H1, rfl, I1.kept (t' := s1.toks) fun b o e => Heap.get?_push_of_some _ e, turn_tuple a _, ⟨_, Heap.get?_push_size _ rfl, rfl, rfl⟩, nw, q⟩
section
variable {K : PySem.W.Frag} {te : TE} {σ : L2.St} {H : Hp} {R : It → Hp → Prop} {Q : VK}
theorem w_iSeq (h : te σ H fun x H1 => SqR K H1 R x) : iSeq K te σ H R := h
theorem w_exSq {a : Addr} {xs : List V} (ha : Sq K H a xs) (h : ∀ (J : It) (G : Hp → Prop), Walk J xs.length G (YAt xs) → (∀ H', Same H H' → G H') → R J H) : SqR K H R (.ref a) := by
  refine ⟨a, xs, rfl, ?_⟩
  rcases ha with ha | ha
  · exact .inl ⟨ha, h _ _ walk_list fun H' s => s.seq ha⟩
  · exact .inr ⟨ha, h _ _ walk_tup fun H' s => SqT.ext ha s⟩
theorem w_listOfS {a : Addr} {xs : List V} (ha : Sq K H a xs) (h : New (.lst xs) H Q) : rListOf K [.ref a] H Q := ⟨a, xs, rfl, ha, fun _ hp => h.go hp⟩
theorem w_sortedS {a : Addr} {xs : List Str} (ha : Sq K H a (xs.map V.str)) (hz : xs.length ≤ 1000000) (h : ∀ ys : List Str, ys.Perm xs → sortedS ys = true → New (.lst (ys.map V.str)) H Q) : rSortedA K [.ref a] H Q := ⟨a, xs, rfl, ha, hz, h⟩
end
theorem w_cat {a b : Addr} {xs ys : List V} {H : Hp} {Q : VK} (ha : H a = some (.lst xs)) (hb : H b = some (.lst ys)) (hz : (xs ++ ys).length ≤ 1000000) (h : New (.lst (xs ++ ys)) H Q) : rCat (.ref a) (.ref b) H Q := by
  refine ⟨a, b, xs, ys, rfl, rfl, ha, hb, ?_, fun p hp => h.go hp⟩
  have h2 : (sizeLine : Nat) = 16777216 := sizeLine_eq
  rw [List.length_append] at hz
  omega

/-! Cq: texts that are prefix-free; the data of a codebook. -/
/-- proper prefixes, the empty one first -/
def props (s : Str) : List Str := (List.range s.length).map fun i => cutS s none (some (i : Nat))
def pfB (xs : List Str) : Bool := decide xs.Nodup && !(xs.any fun s => (props s).any fun p => decide (p ∈ xs))
/-- an integer within bounds -/
def isBetw (lo hi : Int) : V → Bool
  | .int i => decide (lo ≤ i) && decide (i ≤ hi)
  | _ => false
def keyS (x : Str) : Key := .inr x
theorem kV_keyS (x : Str) : kV (keyS x) = .str x := rfl
/-- names and their texts, as a dict's pairs -/
def wd (ws : List (Str × Str)) : List (Key × V) := ws.map fun p => (keyS p.1, V.str p.2)
theorem mergeK_len : ∀ {kvs acc : List (Key × V)}, (mergeK acc kvs).length ≤ acc.length + kvs.length
  | [], acc => Nat.le_refl _
  | (k, v) :: r, acc => by
    show (mergeK (putK acc k v) r).length ≤ _
    have h := mergeK_len (kvs := r) (acc := putK acc k v)
    have h2 := length_putK acc k v
    rw [List.length_cons]
    omega
theorem putK_mem {acc : List (Key × V)} {k : Key} {v : V} (h : k ∈ acc.map (·.1)) : (putK acc k v).length = acc.length := by
  have e : (acc.any fun kv => decide (kv.1 = k)) = true := by
    obtain ⟨p, hp, rfl⟩ := List.mem_map.mp h
    exact List.any_eq_true.mpr ⟨p, hp, by simp⟩
  unfold putK
  rw [if_pos e, List.length_map]
theorem putK_keys {acc : List (Key × V)} {k j : Key} {v : V} : j ∈ (putK acc k v).map (·.1) ↔ j = k ∨ j ∈ acc.map (·.1) := by
  by_cases h : k ∈ acc.map (·.1)
  · have e : (acc.any fun kv => decide (kv.1 = k)) = true := by
      obtain ⟨p, hp, rfl⟩ := List.mem_map.mp h
      exact List.any_eq_true.mpr ⟨p, hp, by simp⟩
    have e2 : (putK acc k v).map (·.1) = acc.map (·.1) := by
      unfold putK
      rw [if_pos e, List.map_map]
      apply List.map_congr_left
      intro p _
      by_cases q : p.1 = k
      · simp [q]
      · simp [q]
    rw [e2]
    exact ⟨fun q => .inr q, fun q => q.elim (fun z => z ▸ h) id⟩
  · rw [putK_append h, List.map_append]
    simp [or_comm]
theorem mergeK_keys : ∀ {kvs acc : List (Key × V)} {j : Key}, j ∈ (mergeK acc kvs).map (·.1) ↔ j ∈ acc.map (·.1) ∨ j ∈ kvs.map (·.1)
  | [], acc, j => by show j ∈ acc.map (·.1) ↔ _; simp
  | (k, v) :: r, acc, j => by
    show j ∈ (mergeK (putK acc k v) r).map (·.1) ↔ _
    rw [mergeK_keys (kvs := r), putK_keys, List.map_cons, List.mem_cons]
    constructor
    · rintro ((h | h) | h)
      · exact .inr (.inl h)
      · exact .inl h
      · exact .inr (.inr h)
    · rintro (h | h | h)
      · exact .inl (.inr h)
      · exact .inl (.inl h)
      · exact .inr h
/-- the keys' number is the pairs' only if no key comes twice -/
theorem mergeK_full : ∀ {kvs acc : List (Key × V)}, (acc.map (·.1)).Nodup → (mergeK acc kvs).length = acc.length + kvs.length → ((acc ++ kvs).map (·.1)).Nodup
  | [], acc, h, _ => by simpa using h
  | (k, v) :: r, acc, h, e => by
    have e' : (mergeK (putK acc k v) r).length = acc.length + (r.length + 1) := e
    have l := mergeK_len (kvs := r) (acc := putK acc k v)
    by_cases q : k ∈ acc.map (·.1)
    · rw [putK_mem q] at l
      omega
    · rw [putK_append q] at e'
      have nd : ((acc ++ [(k, v)]).map (·.1)).Nodup := by
        rw [List.map_append, List.nodup_append]
        refine ⟨h, by simp, ?_⟩
        intro a ha b hb
        simp at hb
        rw [hb]
        exact fun z => q (z ▸ ha)
      have ih := mergeK_full (kvs := r) (acc := acc ++ [(k, v)]) nd (by rw [e', List.length_append]; simp; omega)
      rw [List.append_assoc] at ih
      exact ih
theorem nodup_keyS {xs : List Str} : (xs.map keyS).Nodup ↔ xs.Nodup := by
  unfold List.Nodup
  rw [List.pairwise_map]
  constructor
  · intro h; exact h.imp fun z q => z (by rw [q])
  · intro h; exact h.imp fun z q => z (Sum.inr.inj q)
theorem mem_keyS {x : Str} {xs : List Str} : keyS x ∈ xs.map keyS ↔ x ∈ xs := by
  constructor
  · intro h
    obtain ⟨y, hy, e⟩ := List.mem_map.mp h
    exact (Sum.inr.inj e) ▸ hy
  · intro h; exact List.mem_map.mpr ⟨x, h, rfl⟩
theorem props_len (s : Str) : (props s).length = s.length := by simp [props]
theorem flat_len {α : Type} {f : α → List V} {m : Nat} : ∀ {xs : List α}, (∀ x ∈ xs, (f x).length ≤ m) → (xs.flatMap f).length ≤ xs.length * m
  | [], _ => by simp
  | x :: r, h => by
    rw [List.flatMap_cons, List.length_append, List.length_cons, Nat.succ_mul]
    have h1 := h x List.mem_cons_self
    have h2 := flat_len (xs := r) fun y hy => h y (List.mem_cons_of_mem _ hy)
    omega

/-! Sr: texts in ascending order; dicts compared. -/
def leS (a b : Str) : Bool := !ltCps b.cps.toList a.cps.toList
def srt (xs : List Str) : List Str := xs.mergeSort leS
theorem leS_iff {a b : Str} : leS a b = true ↔ a.cps.toList ≤ b.cps.toList := by
  unfold leS
  rw [PyProof.Rows.ltCps_eq]
  simp
theorem leS_trans (a b c : Str) (h1 : leS a b = true) (h2 : leS b c = true) : leS a c = true := leS_iff.mpr (List.le_trans (leS_iff.mp h1) (leS_iff.mp h2))
theorem leS_total (a b : Str) : (leS a b || leS b a) = true := by
  rw [Bool.or_eq_true, leS_iff, leS_iff]
  exact List.le_total _ _
theorem str_ext {a b : Str} (h : a.cps.toList = b.cps.toList) : a = b := by
  cases a with
  | mk x => cases b with
    | mk y =>
      congr 1
      exact Array.toList_inj.mp h
theorem leS_anti {a b : Str} (h1 : leS a b = true) (h2 : leS b a = true) : a = b := str_ext (List.le_antisymm (leS_iff.mp h1) (leS_iff.mp h2))
theorem rising_pw : ∀ {p : Str} {xs : List Str}, risingS p xs = true → (p :: xs).Pairwise (fun a b => leS a b = true)
  | p, [], _ => by simp
  | p, x :: r, h => by
    have h' : (leS p x && risingS x r) = true := h
    rw [Bool.and_eq_true] at h'
    have ih := rising_pw h'.2
    refine List.pairwise_cons.mpr ⟨fun y hy => ?_, ih⟩
    rcases List.mem_cons.mp hy with rfl | hy
    · exact h'.1
    · exact leS_trans _ _ _ h'.1 ((List.pairwise_cons.mp ih).1 y hy)
theorem sorted_pw {xs : List Str} (h : sortedS xs = true) : xs.Pairwise (fun a b => leS a b = true) := by
  cases xs with
  | nil => exact .nil
  | cons x r => exact rising_pw h
theorem srt_pw (xs : List Str) : (srt xs).Pairwise (fun a b => leS a b = true) := List.pairwise_mergeSort leS_trans leS_total xs
theorem srt_perm (xs : List Str) : (srt xs).Perm xs := List.mergeSort_perm xs leS
theorem pw_eq {xs ys : List Str} (h1 : xs.Pairwise (fun a b => leS a b = true)) (h2 : ys.Pairwise (fun a b => leS a b = true)) (p : xs.Perm ys) : xs = ys :=
  List.Perm.eq_of_pairwise (fun _ _ _ _ a b => leS_anti a b) h1 h2 p
theorem srt_of {ys xs : List Str} (p : ys.Perm xs) (h : sortedS ys = true) : ys = srt xs := pw_eq (sorted_pw h) (srt_pw xs) (p.trans (srt_perm xs).symm)
theorem srt_eq {xs ys : List Str} : srt xs = srt ys ↔ xs.Perm ys := by
  constructor
  · intro h
    exact (srt_perm xs).symm.trans (h ▸ srt_perm ys)
  · intro h
    exact pw_eq (srt_pw xs) (srt_pw ys) ((srt_perm xs).trans (h.trans (srt_perm ys).symm))
theorem srt_len (xs : List Str) : (srt xs).length = xs.length := (srt_perm xs).length_eq
theorem srt_mem {xs : List Str} {x : Str} : x ∈ srt xs ↔ x ∈ xs := (srt_perm xs).mem_iff
theorem srt_nodup {xs : List Str} : (srt xs).Nodup ↔ xs.Nodup := (srt_perm xs).nodup_iff
theorem srt_self {xs : List Str} (h : xs.Pairwise (fun a b => leS a b = true)) : srt xs = xs := pw_eq (srt_pw xs) h (srt_perm xs)
/-! ### a dict's texts by name -/
def look (ws : List (Str × Str)) (n : Str) : Str := ((ws.find? fun p => decide (p.1 = n)).map (·.2)).getD ""
theorem look_mem {ws : List (Str × Str)} (nd : (ws.map (·.1)).Nodup) {p : Str × Str} (h : p ∈ ws) : look ws p.1 = p.2 := by
  induction ws with
  | nil => cases h
  | cons q r ih =>
    rw [List.map_cons, List.nodup_cons] at nd
    unfold look
    rw [List.find?_cons]
    by_cases z : q.1 = p.1
    · rcases List.mem_cons.mp h with rfl | h
      · simp
      · exact absurd (List.mem_map.mpr ⟨p, h, z.symm⟩) nd.1
    · rcases List.mem_cons.mp h with rfl | h
      · exact absurd rfl z
      · simp only [z, decide_false]
        exact ih nd.2 h
theorem look_in {ws : List (Str × Str)} (nd : (ws.map (·.1)).Nodup) {n : Str} (h : n ∈ ws.map (·.1)) : (n, look ws n) ∈ ws := by
  obtain ⟨p, hp, rfl⟩ := List.mem_map.mp h
  rw [look_mem nd hp]
  exact hp
theorem val_wd {ws : List (Str × Str)} (nd : (ws.map (·.1)).Nodup) {n : Str} (h : n ∈ ws.map (·.1)) : valV (wd ws) (keyS n) = some (.str (look ws n)) := by
  refine valV_of_mem ?_ ?_
  · unfold wd
    rw [List.map_map]
    have e : (ws.map ((fun x : Key × V => x.1) ∘ fun p : Str × Str => (keyS p.1, V.str p.2))) = (ws.map (·.1)).map keyS := by rw [List.map_map]; rfl
    rw [e]
    exact nodup_keyS.mpr nd
  · exact List.mem_map.mpr ⟨_, look_in nd h, rfl⟩
theorem wd_keys (ws : List (Str × Str)) : (wd ws).map (·.1) = (ws.map (·.1)).map keyS := by
  unfold wd
  rw [List.map_map, List.map_map]
  rfl
/-- the pairs in the names' ascending order -/
def srtW (ws : List (Str × Str)) : List (Str × Str) := (srt (ws.map (·.1))).map fun n => (n, look ws n)
theorem srtW_names (ws : List (Str × Str)) : (srtW ws).map (·.1) = srt (ws.map (·.1)) := by
  unfold srtW
  rw [List.map_map]
  show (srt (ws.map (·.1))).map (fun n => n) = _
  simp
theorem map_look {ws : List (Str × Str)} (nd : (ws.map (·.1)).Nodup) : ((ws.map (·.1)).map fun n => (n, look ws n)) = ws := by
  rw [List.map_map]
  conv => rhs; rw [← List.map_id ws]
  refine List.map_congr_left fun p hp => ?_
  show (p.1, look ws p.1) = p
  rw [look_mem nd hp]
theorem srtW_perm {ws : List (Str × Str)} (nd : (ws.map (·.1)).Nodup) : (srtW ws).Perm ws := by
  have h := (srt_perm (ws.map (·.1))).map fun n => (n, look ws n)
  rw [map_look nd] at h
  exact h
theorem srtW_nodup {ws : List (Str × Str)} (nd : (ws.map (·.1)).Nodup) : ((srtW ws).map (·.1)).Nodup := by rw [srtW_names]; exact srt_nodup.mpr nd
theorem srtW_eq {ws vs : List (Str × Str)} (n1 : (ws.map (·.1)).Nodup) (n2 : (vs.map (·.1)).Nodup) : srtW ws = srtW vs ↔ ws.Perm vs := by
  constructor
  · intro h
    exact (srtW_perm n1).symm.trans (h ▸ srtW_perm n2)
  · intro h
    have e : srt (ws.map (·.1)) = srt (vs.map (·.1)) := srt_eq.mpr (h.map _)
    unfold srtW
    rw [e]
    refine List.map_congr_left fun n hn => ?_
    have hn2 : n ∈ vs.map (·.1) := srt_mem.mp hn
    have m := look_in n2 hn2
    have m2 : (n, look vs n) ∈ ws := h.mem_iff.mpr m
    have := look_mem n1 m2
    rw [show look ws n = look vs n from this]
/-! ### dicts compared -/
def eqF : V → V → Bool
  | .str a, .str b => a == b
  | _, _ => false
def hitsB (ls : List (Key × V)) : List (Key × V) → Bool
  | [] => true
  | p :: r => match valV ls p.1 with
    | none => false
    | some y => eqF p.2 y && hitsB ls r
def eqKV (ks ls : List (Key × V)) : Bool := ks.length == ls.length && hitsB ls ks
theorem hits_B {A : Around} {s : Shared} {ls : List (Key × V)} {vb : List (Key × Value)} (rb : KV ls vb) (hl : ∀ p ∈ ls, isS p.2 = true) : ∀ {ks : List (Key × V)} {va : List (Key × Value)}, KV ks va → (∀ p ∈ ks, isS p.2 = true) → PySem.W.KeqHits A s vb va (hitsB ls ks)
  | [], _, .nil, _ => .nil
  | p :: ps, (k, v) :: qs, .cons h t, hp => by
    obtain ⟨h1, h2⟩ := h
    have h1' : p.1 = k := h1
    have ih := hits_B (A := A) (s := s) rb hl t fun q hq => hp q (List.mem_cons_of_mem _ hq)
    have r := rb.val p.1
    unfold hitsB
    cases e : valV ls p.1 with
    | none =>
      rw [e] at r
      cases e2 : valueAt vb p.1 with
      | none => exact .miss (by rw [← h1']; exact e2)
      | some y => rw [e2] at r; exact absurd r (by simp [RelO])
    | some y =>
      rw [e] at r
      obtain ⟨y', hy, ry⟩ := r.some_of
      obtain ⟨a, ea⟩ := isS_iff.mp (hp p List.mem_cons_self)
      obtain ⟨b, eb⟩ := isS_iff.mp (hl _ (valV_some e))
      have eb' : y = .str b := eb
      subst eb'
      have h2' : RelV p.2 v := h2
      rw [ea] at h2'
      obtain ⟨t1, rfl⟩ := (show ∃ t, v = Value.str a t from h2')
      obtain ⟨t2, rfl⟩ := (show ∃ t, y' = Value.str b t from ry)
      show PySem.W.KeqHits A s vb ((k, Value.str a t1) :: qs) (eqF p.2 (.str b) && hitsB ls ps)
      rw [ea]
      exact .hit (by rw [← h1']; exact hy) (SeqAt.EqAt.str_str a t1 b t2) ih
def rEqKV (n : Bool → Bool) : R2 := fun x y H Q => ∃ a b ks ls, x = .ref a ∧ y = .ref b ∧ H a = some (.dK ks) ∧ H b = some (.dK ls) ∧ (∀ p ∈ ks, isS p.2 = true) ∧ (∀ p ∈ ls, isS p.2 = true) ∧ Q (.bl (n (eqKV ks ls))) H
theorem op_eqKV {X : Cx} (hu : X.A.units < cLine) : OpR X (compareOp .Eq) (rEqKV id) := by
  intro pins s σ H x y v u Q I rx ry h
  obtain ⟨a, b, ks, ls, rfl, rfl, ea, eb, h1, h2, q⟩ := h
  obtain rfl : v = Value.ref a := rx
  obtain rfl : u = Value.ref b := ry
  obtain ⟨_, ya, va, ra, da⟩ := I.hok a _ ea
  obtain ⟨_, yb, vb, rb, db⟩ := I.hok b _ eb
  refine PySem.W.keq_eq (knd := mixKind X.prog X.w) (r := hitsB ls ks) ya yb da db hu (fun _ => hits_B rb h2 ra h1) ?_
  rw [← ra.length, ← rb.length]
  exact ⟨.bl (eqKV ks ls), H, I, rfl, q⟩
theorem op_neKV {X : Cx} (hu : X.A.units < cLine) : OpR X (compareOp .NotEq) (rEqKV not) := by
  intro pins s σ H x y v u Q I rx ry h
  obtain ⟨a, b, ks, ls, rfl, rfl, ea, eb, h1, h2, q⟩ := h
  obtain rfl : v = Value.ref a := rx
  obtain rfl : u = Value.ref b := ry
  obtain ⟨_, ya, va, ra, da⟩ := I.hok a _ ea
  obtain ⟨_, yb, vb, rb, db⟩ := I.hok b _ eb
  refine PySem.W.keq_ne (knd := mixKind X.prog X.w) (r := hitsB ls ks) ya yb da db hu (fun _ => hits_B rb h2 ra h1) ?_
  rw [← ra.length, ← rb.length]
  exact ⟨.bl (!eqKV ks ls), H, I, rfl, q⟩
theorem w_eqKV {a b : Addr} {ws vs : List (Str × Str)} {H : Hp} {Q : VK} {n : Bool → Bool} (ha : H a = some (.dK (wd ws))) (hb : H b = some (.dK (wd vs))) (h : Q (.bl (n (eqKV (wd ws) (wd vs)))) H) : rEqKV n (.ref a) (.ref b) H Q := by
  have z : ∀ (us : List (Str × Str)), ∀ p ∈ wd us, isS p.2 = true := fun us p hp => by
    obtain ⟨q, _, rfl⟩ := List.mem_map.mp hp
    rfl
  exact ⟨a, b, _, _, rfl, rfl, ha, hb, z ws, z vs, h⟩
theorem w_eqK {a b : Addr} {ws vs : List (Str × Str)} {H : Hp} {Q : VK} (ha : H a = some (.dK (wd ws))) (hb : H b = some (.dK (wd vs))) (h : Q (.bl (eqKV (wd ws) (wd vs))) H) : rEqKV id (.ref a) (.ref b) H Q := w_eqKV (n := id) ha hb h
theorem w_neK {a b : Addr} {ws vs : List (Str × Str)} {H : Hp} {Q : VK} (ha : H a = some (.dK (wd ws))) (hb : H b = some (.dK (wd vs))) (h : Q (.bl (!eqKV (wd ws) (wd vs))) H) : rEqKV not (.ref a) (.ref b) H Q := w_eqKV (n := not) ha hb h
theorem hitsB_iff {vs : List (Str × Str)} (n2 : (vs.map (·.1)).Nodup) : ∀ {ws : List (Str × Str)}, hitsB (wd vs) (wd ws) = true ↔ ∀ p ∈ ws, p ∈ vs
  | [] => by simp [hitsB, wd]
  | p :: r => by
    have ih := hitsB_iff n2 (ws := r)
    show (match valV (wd vs) (keyS p.1) with | none => false | some y => eqF (.str p.2) y && hitsB (wd vs) (wd r)) = true ↔ _
    rw [List.forall_mem_cons, ← ih]
    by_cases m : p.1 ∈ vs.map (·.1)
    · rw [val_wd n2 m]
      show ((p.2 == look vs p.1) && hitsB (wd vs) (wd r)) = true ↔ _
      rw [Bool.and_eq_true, beq_iff_eq]
      have : p.2 = look vs p.1 ↔ p ∈ vs := by
        constructor
        · intro e
          have := look_in n2 m
          rw [← e] at this
          exact this
        · intro h; exact (look_mem n2 h).symm
      rw [this]
    · rw [valV_none (by rw [wd_keys]; exact fun z => m (mem_keyS.mp z))]
      constructor
      · intro h; cases h
      · intro h; exact absurd (List.mem_map.mpr ⟨p, h.1, rfl⟩) m
theorem perm_of_sub {α : Type} [DecidableEq α] : ∀ {xs ys : List α}, xs.Nodup → (∀ x ∈ xs, x ∈ ys) → xs.length = ys.length → xs.Perm ys
  | [], ys, _, _, e => by
    have : ys = [] := by cases ys with | nil => rfl | cons _ _ => simp at e
    rw [this]
  | x :: r, ys, nd, h, e => by
    rw [List.nodup_cons] at nd
    have m := h x List.mem_cons_self
    have p := List.perm_cons_erase m
    refine List.Perm.trans (List.Perm.cons x ?_) p.symm
    refine perm_of_sub nd.2 (fun y hy => ?_) (by rw [List.length_erase_of_mem m, ← e]; simp)
    have ne : y ≠ x := fun z => nd.1 (z ▸ hy)
    exact (List.mem_erase_of_ne ne).mpr (h y (List.mem_cons_of_mem _ hy))
theorem eqKV_iff {ws vs : List (Str × Str)} (n1 : (ws.map (·.1)).Nodup) (n2 : (vs.map (·.1)).Nodup) : eqKV (wd ws) (wd vs) = true ↔ ws.Perm vs := by
  have nw : ws.Nodup := by
    have := n1
    unfold List.Nodup at this ⊢
    rw [List.pairwise_map] at this
    exact this.imp fun h e => h (by rw [e])
  unfold eqKV
  rw [Bool.and_eq_true, hitsB_iff n2, beq_iff_eq]
  have l : ∀ us : List (Str × Str), (wd us).length = us.length := fun us => by simp [wd]
  rw [l, l]
  constructor
  · intro h; exact perm_of_sub nw h.2 h.1
  · intro h; exact ⟨h.length_eq, fun p hp => h.mem_iff.mp hp⟩

/-! Kg: defs whose walk knows that no guard stands around (repr of a container asks that). -/
structure FnG (P : Program) (w : World) (K : PySem.W.Frag) (mg : Str → Option Value) (base : Heap) (k : Nat) (f : Addr) (fd : FuncData) (ps : List Str) (sp : Sp) : Prop where
  len : ∀ vs H Q E, sp vs H Q E → vs.length = ps.length
  run : ∀ (A : Around) (outer : List Env) (s : Shared) (H : Hp) (args : Args) (us : List Value) (vs : List V) (Q : VK) (E : XK), Room k A → A.guards = some [] → Env0 P w K mg base A outer s H → BindsTo s fd args (ps.zip us) → Vals vs us → sp vs H Q E →
    codeAny (model P w) A (.call (.ref f) args) (L2.CR (L2.CX P w) outer P w H s Q E) s
structure DefG (P : Program) (w : World) (K : PySem.W.Frag) (mg : Str → Option Value) (base : Heap) (k : Nat) (x : Str) (ps : List Str) (sp : Sp) : Prop where
  ex : ∃ f fd, FnG P w K mg base k f fd ps sp ∧ mg x = some (.ref f) ∧ PySem.W.keepIn K (.ref f) = true ∧ Binds K fd ps [] ∧ ∃ oc od osl, K.lookup f = some ⟨oc, od, .func fd, osl⟩
section
variable {P : Program} {w : World} {K : PySem.W.Frag} {mg : Str → Option Value} {base : Heap} {k : Nat} {x : Str} {ps : List Str} {sp : Sp}
theorem FnG.mono {f : Addr} {fd : FuncData} {j : Nat} (F : FnG P w K mg base j f fd ps sp) (h : j ≤ k) : FnG P w K mg base k f fd ps sp :=
  ⟨F.len, fun A outer s H args us vs Q E hr hg => F.run A outer s H args us vs Q E (hr.mono h) hg⟩
theorem DefG.mono {j : Nat} (D : DefG P w K mg base j x ps sp) (h : j ≤ k) : DefG P w K mg base k x ps sp := by
  obtain ⟨f, fd, F, r⟩ := D.ex
  exact ⟨f, fd, F.mono h, r⟩
theorem DefOk.toG (D : DefOk P w K mg base k x ps sp) : DefG P w K mg base k x ps sp := by
  obtain ⟨f, fd, F, r⟩ := D.ex
  exact ⟨f, fd, ⟨F.len, fun A outer s H args us vs Q E hr _ => F.run A outer s H args us vs Q E hr⟩, r⟩
theorem DefG.at {f : Addr} {fd : FuncData} {oc : Value} {od : Option Addr} {osl : Array (Option Value)} (D : DefG P w K mg base k x ps sp) (g : mg x = some (.ref f)) (l : K.lookup f = some ⟨oc, od, .func fd, osl⟩) : FnG P w K mg base k f fd ps sp := by
  obtain ⟨f', fd', F, g', _, _, oc', od', osl', l'⟩ := D.ex
  rw [g] at g'
  cases g'
  rw [l] at l'
  cases l'
  exact F
theorem DefG.of {st : Stmt} {N : List Str} (F : At K mg x x st) (S : FnScope N ps (defScope st))
    (hb : ∀ (kV doc pm : Value) (an : Option Addr) (cdv ct : Value) (us : List Value), us.length = ps.length → bindArgs (PySem.W.fnOf x x (defArgs st) (defBody st) (defScope st) .none kV doc pm an cdv ct) ⟨us, []⟩ = pure (ps.zip us))
    (len : ∀ vs H Q E, sp vs H Q E → vs.length = ps.length)
    (hbody : ∀ (f : Addr) (cdv : Value) (A : Around) (outer : List Env) (s : Shared) (H : Hp) (vs : List V) (Q : VK) (E : XK), Room k (A.deeper (envOfC x (defScope st) s.heap.objs.size f cdv)) → (A.deeper (envOfC x (defScope st) s.heap.objs.size f cdv)).guards = some [] → sp vs H Q E →
      ∃ t, PSs (cxOf (L2.CX P w) P w K mg base N x (defScope st) f cdv A outer s H E) (defBody st) t ∧ t { nx := fun _ H' => Q .non H', rt := Q } (start N vs) H) : DefG P w K mg base (k + 1) x ps sp := by
  obtain ⟨f, fd, Fu, g⟩ := F.ex
  have F' := Fu
  obtain ⟨oc, od, kV, doc, pm, an, cdv, ct, osl, e, lk, hcd⟩ := F'.ex
  refine ⟨f, fd, ?_, g, Fu.kp, Fu.binds hb, oc, od, osl, lk⟩
  subst e
  refine ⟨len, fun A outer s H args us vs Q E hr hg e0 hbd r hsp => ?_⟩
  have lv := len vs H Q E hsp
  have kIn : K.In s.heap := e0.mod.kin.keeps fun b o z => (e0.bs b o z).1
  have lims := e0.mod.nolimit.keeps (h' := s.heap) fun b o z => (e0.bs b o z).1
  have kinds : ∀ y ∈ ps.zip us, (defScope st).names.lookup y.1 = some .local ∨ ((defScope st).names.lookup y.1 = some .cell ∧ ((cellsFrom (s.heap.objs.size + 1) (defScope st).names []).lookup y.1).isSome = true) := by
    rintro ⟨n, v⟩ hy
    exact (S.par n (List.of_mem_zip hy).1).elim .inl fun q => .inr ⟨q, PySem.W.cellsFrom_some _ _ _ (.inl q)⟩
  refine codeAny_call_function hr.depth (kIn _ _ lk) rfl S.co S.gen rfl (PySem.W.codeRec_of kIn hcd) (hbd _ _ _ _ (wpAny_newFunctionEnv_cells S.kind kinds fun env he s1 z => ?_))
  subst he
  refine ⟨lims.keeps z.toInCall.keep, codeAny_func ?_⟩
  obtain ⟨t, ht, hq⟩ := hbody f cdv A outer s H vs Q E (hr.deeper _) hg hsp
  have I := inv_start (CX := L2.CX P w) (E := E) (mg := mg) (base := base) S hr.hd e0 lv r z
  refine wpAny_mono (ht.run [] s1 (start N vs) H _ I hq) (fun fl s' hs => ?_) fun e s' hs => hs
  cases fl with
  | ret u =>
    obtain ⟨v, σ', H', J, rv, q⟩ := hs
    exact ⟨v, H', J.os, J.bare, J.base, J.hok, rv, q⟩
  | next =>
    obtain ⟨σ', H', J, q⟩ := hs
    exact ⟨V.non, H', J.os, J.bare, J.base, J.hok, rfl, q⟩
  | brk => obtain ⟨_, _, _, q⟩ := hs; exact q.elim
  | cont => obtain ⟨_, _, _, q⟩ := hs; exact q.elim
end
section
variable {X : Cx} {k : Nat} {ps : List Str} {sp : Sp} {E : XK} {x : Str} {p pos : Pos} {e : Expr} {es : List Expr} {t : TA}
theorem run_fnG {f : Addr} {fd : FuncData} {pins : List (Addr × Obj)} {σ : L2.St} {H : Hp} {s : Shared} {Q : VK} {us : List Value} {vs : List V} (F : FnG X.prog X.w X.K X.mg X.base k f fd ps sp) (hr : Room k X.A) (hg : X.A.guards = some []) (hb : Binds X.K fd ps []) (hx : Passes (L2.CX X.prog X.w) X E)
    (I : Inv X pins σ H s) (r : Vals vs us) (h : sp vs H Q E) : wpAny (model X.prog X.w) X.A (call (.ref f) us) (EP X pins σ Q) X.xe s := by
  have hl : (us ++ []).length = ps.length := by rw [List.append_nil, ← r.length]; exact F.len _ _ _ _ h
  have hbb := hb s us I.kIn hl
  rw [List.append_nil] at hbb
  refine wpAny_call (codeAny_mono (F.run X.A X.stack s H ⟨us, []⟩ us vs Q E hr hg I.env0 hbb r h) fun r s' hq => ?_)
  match r, hq with
  | .error e, hq => exact hx pins σ H s e s' I hq
  | .ok (.ret u), hq => exact I.after hq
theorem pe_callG (D : DefG X.prog X.w X.K X.mg X.base k x ps sp) (hr : Room k X.A) (hgd : X.A.guards = some []) (hx : Passes (L2.CX X.prog X.w) X E) (ha : PA X (e :: es) t) (hg : Gl X x := by rfl) (hdb : (x == ("__debug__" : Str)) = false := by decide)
    (he : starEach (e :: es) X.env = (false, eval e X.env) :: starEach es X.env := by rfl) (hpl : (backTo pos (starEach es X.env)).any (·.1) = false := by rfl) :
    PE X (.Call (.Name x p) (e :: es) [] pos) (tCall sp [] E t) := by
  obtain ⟨f, fd, F, g, kp, b, _⟩ := D.ex
  refine ⟨fun pins s σ H Q I h => wpAny_Call_Name_kw (ld_glob I hg g ?_ hdb)⟩
  refine PySem.W.callWith_K (h₀ := X.base) I.ok.mod.kin kp (thn (ha.run pos pins s σ H _ I h) fun us s1 ⟨vs, H1, I1, r, q⟩ => ⟨I1.kIn, ?_⟩) he hpl
  have q2 : sp (vs ++ []) H1 Q E := q
  rw [List.append_nil] at q2
  exact run_fnG F hr hgd b hx I1 r q2
theorem pe_callG0 (D : DefG X.prog X.w X.K X.mg X.base k x ps sp) (hr : Room k X.A) (hgd : X.A.guards = some []) (hx : Passes (L2.CX X.prog X.w) X E) (hg : Gl X x := by rfl) (hdb : (x == ("__debug__" : Str)) = false := by decide) :
    PE X (.Call (.Name x p) [] [] pos) (tCall sp [] E tNil) := by
  obtain ⟨f, fd, F, g, kp, b, _⟩ := D.ex
  exact ⟨fun pins s σ H Q I h => wpAny_Call_Name_kw (ld_glob I hg g (PySem.W.callWith_K0 I.kIn kp (run_fnG (us := []) F hr hgd b hx I .nil h)) hdb)⟩
end
/-! ### the law's call -/
theorem law_callG {P : Program} {w : World} {K : PySem.W.Frag} {mg mb : Str → Option Value} {k : Nat} {fa a : Addr} {fd : FuncData} {x : Str} {sp : Sp} {s₁ : Shared} {vs : List Value} {ns : List Int}
    (KX : K.In s₁.heap) (hns : s₁.heap.Ns mainGlobals mg) (hb : s₁.heap.Ns builtinsNs mb) (hbb : ∀ x : Str, x ≠ "__name__" → mb x = bootBuiltins x) (hlim : s₁.heap.NoLimit) (hg : s₁.gens = #[])
    (ha : s₁.heap.get? a = some { cls := .type "list", data := .seq vs.toArray }) (hi : IntsAre vs ns) (hl : ns.length ≤ sizeLine) (hr : Room k callerA)
    (F : ∀ base : Heap, K.In base → base.Ns mainGlobals mg → FnG P w K mg base k fa fd [x] sp) (hbind : ∀ (s : Shared) (u : Value), BindsTo s fd ⟨[u], []⟩ [(x, u)])
    (hsp : ∀ H : Hp, SqL K H a (ns.map V.int) → sp [.ref a] H (fun v _ => v = .bl true) fun _ _ _ => False) :
    codeAny (model P w) callerA (.call (.ref fa) ⟨[.ref a], []⟩) (fun r s' => r = .ok (.ret (.bool true)) ∧ OldK s₁.heap s'.heap ∧ s'.os = s₁.os ∧ AllBare s'.gens) s₁ := by
  have rv := vals_ints hi
  have lv := hi.length
  have go : ∀ H : Hp, Only H → SqL K H a (ns.map V.int) → HOk P w H s₁.heap → (∀ b, H b ≠ none → b = a) → (H a ≠ none → K.lookup a = none) →
      codeAny (model P w) callerA (.call (.ref fa) ⟨[.ref a], []⟩) (fun r s' => r = .ok (.ret (.bool true)) ∧ OldK s₁.heap s'.heap ∧ s'.os = s₁.os ∧ AllBare s'.gens) s₁ := by
    intro H hO hS hok hA hK
    have base_of : ∀ {b : Addr} {o : Obj}, s₁.heap.get? b = some o → H b = none → (hidT s₁.heap H).get? b = some o := hidT_get
    have noA : ∀ {b : Addr} {o : Obj} {es : Array DictEntry} {ep : Nat}, s₁.heap.get? b = some o → o.data = .dict es ep → H b = none := by
      intro b o es ep e d
      cases q : H b with
      | none => rfl
      | some u =>
        have e' : b = a := hA b (by rw [q]; simp)
        rw [e', ha] at e
        cases e
        cases (show Data.seq vs.toArray _ = Data.dict es ep from d)
    have nsK : ∀ {b : Addr} {m : Str → Option Value}, s₁.heap.Ns b m → (hidT s₁.heap H).Ns b m := by
      rintro b m ⟨o, es, ep, e, d, r⟩
      exact ⟨o, es, ep, base_of e (noA e d), d, r⟩
    have hKb : K.In (hidT s₁.heap H) := by
      intro b o e
      refine base_of (KX b o e) ?_
      cases q : H b with
      | none => rfl
      | some u =>
        have e' : b = a := hA b (by rw [q]; simp)
        rw [e', hK (by rw [← e', q]; simp)] at e
        cases e
    obtain ⟨mc, c1, c2⟩ := hlim
    have hM : Mod K mg (hidT s₁.heap H) := ⟨hKb, nsK hns, ⟨mb, nsK hb, hbb⟩, ⟨mc, nsK c1, c2⟩⟩
    have none0 : ∀ b : Addr, b ∉ ([] : List Addr) := fun b => by simp
    have e0 : Env0 P w K mg (hidT s₁.heap H) callerA [] s₁ H := ⟨rfl, hM, fun b o e => of_hidT e, Nat.le_of_eq (hidT_size _ _), trivial, fun b hb => absurd hb (none0 b), hok, .of_eq hg⟩
    have run := (F _ hKb (nsK hns)).run callerA [] s₁ H ⟨[.ref a], []⟩ [.ref a] [.ref a] _ _ hr rfl e0 (hbind s₁ (.ref a)) (.cons rfl .nil) (hsp H hS)
    refine codeAny_mono run fun r s' h => ?_
    match r, h with
    | .error e, h => exact (cx_no h).elim
    | .ok (.ret u), h =>
      obtain ⟨v, H', os, bare, un, hok', r', q⟩ := h
      cases (show v = .bl true from q)
      cases (show u = Value.bool true from r')
      refine ⟨rfl, OldK.of_keep fun b o e => ?_, os, bare⟩
      cases q : H b with
      | none => exact un.keep b o e q (none0 b) (by simp)
      | some u =>
        rcases hO b with z | ⟨ob, xs, z⟩
        · rw [q] at z; cases z
        · obtain ⟨e1, _⟩ := hok b _ z
          obtain ⟨e2, _⟩ := hok' b _ (un.frzs b ob _ z)
          rw [e] at e1; cases e1
          exact e2
  cases hk : K.lookup a with
  | some o =>
    have e := KX a o hk
    rw [ha] at e
    cases e
    exact go (fun _ => none) (fun _ => .inl rfl) (.inr ⟨_, vs.toArray, _, hk, rfl, rfl, rfl, by rw [List.size_toArray, lv]; exact hl, by simpa using rv⟩) (fun b u z => by cases (show (none : Option HO) = some u from z)) (fun b z => absurd rfl z) fun z => absurd rfl z
  | none =>
    have at0 : ∀ {b : Addr} {u : HO}, (if b = a then some (HO.frz { cls := .type "list", data := .seq vs.toArray } (.lst (ns.map V.int))) else none) = some u → b = a ∧ u = HO.frz { cls := .type "list", data := .seq vs.toArray } (.lst (ns.map V.int)) := by
      intro b u z
      by_cases hb : b = a
      · rw [if_pos hb] at z; cases z; exact ⟨hb, rfl⟩
      · rw [if_neg hb] at z; cases z
    refine go (fun b => if b = a then some (.frz { cls := .type "list", data := .seq vs.toArray } (.lst (ns.map V.int))) else none) (fun b => ?_) (.inl (.inr ⟨{ cls := .type "list", data := .seq vs.toArray }, if_pos rfl⟩)) (fun b u z => ?_) (fun b z => ?_) fun _ => hk
    · by_cases hb : b = a
      · exact .inr ⟨_, _, if_pos hb⟩
      · exact .inl (if_neg hb)
    · obtain ⟨rfl, rfl⟩ := at0 z
      exact ⟨ha, by rw [List.length_map]; exact hl, vs, _, rv, ha⟩
    · by_cases hb : b = a
      · exact hb
      · exact absurd (if_neg hb) z
theorem walk_lawG {l : PySem.W.OpenLaw} {q : Program} {loose : List Str} {XP : (Str → Option Value) → Heap → Prop} {YP : World → Heap → Prop} {d : DefRec} {K : Params → PySem.W.Frag} (k : Nat) (sp : PySem.W.Frag → Sp) (hn : l.most = some 63) (hdf : d.params.defaults = []) (hr : Room k callerA)
    (hY : ∀ (w : World) (h : Heap), YP w h → (K w.params).In h)
    (hsp : ∀ (K : PySem.W.Frag) (H : Hp) (a : Addr) (ns : List Int), ns.length ≤ 63 → SqL K H a (ns.map V.int) → sp K [.ref a] H (fun v _ => v = .bl true) fun _ _ _ => False)
    (F : ∀ (w : World) (mg : Str → Option Value) (fa : Addr) (h : Heap), (K w.params).In h → h.Ns mainGlobals mg → mg d.name = some (.ref fa) →
      ∃ fd : FuncData, (∀ (s : Shared) (u : Value), BindsTo s fd ⟨[u], []⟩ [("script", u)]) ∧ ∀ base : Heap, (K w.params).In base → base.Ns mainGlobals mg → FnG l.prog w (K w.params) mg base k fa fd ["script"] (sp (K w.params))) :
    PySem.W.WalkO q loose XP YP l.row.toRowW d [] (fun f vs => PySem.call f vs) := by
  refine Att.attach_call hn hdf fun w s₀ s₁ mg mb fa o pm cd doc a vs ns G Y ho hd hcd hmg hobj hints hlen hg => ?_
  obtain ⟨fd, hb, hF⟩ := F w mg fa _ (hY w _ Y) G.T.g hmg
  exact law_callG (hY w _ Y) G.T.g G.T.b G.T.builtins G.T.nolimit hg hobj hints (Nat.le_trans hlen (by decide)) hr hF hb fun H hS => hsp _ H a ns hlen hS

/-! Kr: repr of data: flat values, tuples, dicts of flat values; lists and tuples without dicts. -/
def flatV : V → Bool
  | .non => true
  | .bl _ => true
  | .int _ => true
  | .str _ => true
  | _ => false
mutual
/-- numbers of a size that is shown, texts of code points -/
def fineD : PyData → Bool
  | .none => true
  | .bool _ => true
  | .int i => decide (i.natAbs.log2 < 1920)
  | .str x => PyData.strOk x
  | .list xs => fineAll xs
  | .tuple xs => fineAll xs
  | .dict kvs => fineKv kvs
def fineAll : List PyData → Bool
  | [] => true
  | x :: xs => fineD x && fineAll xs
def fineKv : List (PyData × PyData) → Bool
  | [] => true
  | (k, v) :: r => fineD k && fineD v && fineKv r
end
mutual
/-- at most so long is what is shown -/
def wtD : PyData → Nat
  | .none => 4
  | .bool _ => 5
  | .int _ => 1921
  | .str x => 10 * x.length + 2
  | .list xs => wtAll xs + 2
  | .tuple xs => wtAll xs + 3
  | .dict kvs => wtKv kvs + 2
def wtAll : List PyData → Nat
  | [] => 0
  | x :: xs => wtD x + 2 + wtAll xs
def wtKv : List (PyData × PyData) → Nat
  | [] => 0
  | (k, v) :: r => wtD k + wtD v + 4 + wtKv r
end
mutual
theorem fine_show : ∀ d : PyData, fineD d = true → d.showable = true
  | .none, _ => by simp [PyData.showable]
  | .bool _, _ => by simp [PyData.showable]
  | .int i, h => by simpa [PyData.showable, fineD] using h
  | .str _, _ => by simp [PyData.showable]
  | .list xs, h => by simpa [PyData.showable] using fineAll_show xs (by simpa [fineD] using h)
  | .tuple xs, h => by simpa [PyData.showable] using fineAll_show xs (by simpa [fineD] using h)
  | .dict kvs, h => by simpa [PyData.showable] using fineKv_show kvs (by simpa [fineD] using h)
theorem fineAll_show : ∀ xs : List PyData, fineAll xs = true → PyData.showableAll xs = true
  | [], _ => by simp [PyData.showableAll]
  | x :: xs, h => by
    have h' : fineD x = true ∧ fineAll xs = true := by simpa [fineAll] using h
    simp [PyData.showableAll, fine_show x h'.1, fineAll_show xs h'.2]
theorem fineKv_show : ∀ xs : List (PyData × PyData), fineKv xs = true → PyData.showableKv xs = true
  | [], _ => by simp [PyData.showableKv]
  | (k, v) :: r, h => by
    have h' : (fineD k = true ∧ fineD v = true) ∧ fineKv r = true := by simpa [fineKv, Bool.and_eq_true] using h
    simp [PyData.showableKv, fine_show k h'.1.1, fine_show v h'.1.2, fineKv_show r h'.2]
end
theorem join_piled (ts : List Str) : (Str.join ", " ts).length ≤ piled ts := by
  by_cases h : ts = []
  · subst h; simp [Str.join, piled]; decide
  · have := join_length_add ts h
    omega
theorem list_piled (ts : List Str) : (listText ts).length ≤ piled ts + 2 := by
  rw [listText_eq_join]
  have := join_piled ts
  rw [strLen_append, strLen_append]
  have e1 : (("[" : String) : Str).length = 1 := rfl
  have e2 : (("]" : String) : Str).length = 1 := rfl
  omega
theorem tuple_piled (ts : List Str) : (tupleText ts).length ≤ piled ts + 3 := by
  unfold tupleText
  have := join_piled ts
  rw [strLen_append, strLen_append]
  have e1 : (("(" : String) : Str).length = 1 := rfl
  have e2 : ((if ts.length == 1 then ",)" else ")" : String) : Str).length ≤ 2 := by split <;> decide
  omega
theorem dict_piled (ts : List Str) : (dictText ts).length ≤ piled ts + 2 := by
  unfold dictText
  have := join_piled ts
  rw [strLen_append, strLen_append]
  have e1 : (("{" : String) : Str).length = 1 := rfl
  have e2 : (("}" : String) : Str).length = 1 := rfl
  omega
mutual
theorem shown_wt : ∀ d : PyData, fineD d = true → d.shown.length ≤ wtD d
  | .none, _ => by simp only [PyData.shown, wtD]; decide
  | .bool b, _ => by simp only [PyData.shown, wtD]; cases b <;> decide
  | .int i, h => by
    have h' : i.natAbs.log2 < 1920 := by simpa [fineD] using h
    have := int_text_length_le (k := 1920) (by decide) h'
    simp only [PyData.shown, wtD]
    rw [PySem.ofString_length]; omega
  | .str x, h => by
    have h' : PyData.strOk x = true := by simpa [fineD] using h
    simp only [PyData.shown, wtD]
    exact StrLaws.reprText_len x fun c hc => Nat.lt_trans (strOk_iff.mp h' c hc) (by decide)
  | .list xs, h => by
    have h' := shownAll_wt xs (by simpa [fineD] using h)
    have := list_piled (PyData.shownAll xs)
    simp only [PyData.shown, wtD]; omega
  | .tuple xs, h => by
    have h' := shownAll_wt xs (by simpa [fineD] using h)
    have := tuple_piled (PyData.shownAll xs)
    simp only [PyData.shown, wtD]; omega
  | .dict kvs, h => by
    have h' := shownKv_wt kvs (by simpa [fineD] using h)
    have := dict_piled (PyData.shownKv kvs)
    simp only [PyData.shown, wtD]; omega
theorem shownAll_wt : ∀ xs : List PyData, fineAll xs = true → piled (PyData.shownAll xs) ≤ wtAll xs
  | [], _ => by simp [PyData.shownAll, wtAll, piled]
  | x :: xs, h => by
    have h' : fineD x = true ∧ fineAll xs = true := by simpa [fineAll] using h
    have h1 := shown_wt x h'.1
    have h2 := shownAll_wt xs h'.2
    simp only [PyData.shownAll, wtAll, piled_cons]; omega
theorem shownKv_wt : ∀ xs : List (PyData × PyData), fineKv xs = true → piled (PyData.shownKv xs) ≤ wtKv xs
  | [], _ => by simp [PyData.shownKv, wtKv, piled]
  | (k, v) :: r, h => by
    have h' : (fineD k = true ∧ fineD v = true) ∧ fineKv r = true := by simpa [fineKv, Bool.and_eq_true] using h
    have h1 := shown_wt k h'.1.1
    have h2 := shown_wt v h'.1.2
    have h3 := shownKv_wt r h'.2
    have e : ((": " : String) : Str).length = 2 := rfl
    simp only [PyData.shownKv, wtKv, piled_cons]
    rw [strLen_append, strLen_append]; omega
end
section
variable {X : Cx} {pins : List (Addr × Obj)} {σ : L2.St} {H : Hp} {s : Shared}
theorem rd_flat {h : Heap} {v : V} {u : Value} (f : flatV v = true) (r : RelV v u) : Reads h u (fD v) [] := by
  cases v with
  | non => cases (show u = Value.none from r); exact .none
  | bl b => cases (show u = Value.bool b from r); exact .bool b
  | int i => obtain ⟨t, rfl⟩ := (show ∃ t, u = Value.int i t from r); exact .int i t
  | str x => obtain ⟨t, rfl⟩ := (show ∃ t, u = Value.str x t from r); exact .str x t
  | _ => cases f
theorem rd_dict (I : Inv X pins σ H s) {a : Addr} {kvs : List (Key × V)} (e : H a = some (.dK kvs)) (hf : ∀ p ∈ kvs, flatV p.2 = true) : Reads s.heap (.ref a) (.dict (kvs.map fun p => (fD (kV p.1), fD p.2))) [a] ∧ a ≠ sysModules := by
  obtain ⟨_, lo, vs, rel, o, es, ep, ho, hx, hd, _, hp, _⟩ := I.hok a _ e
  have go : ∀ {kvs : List (Key × V)} {vs : List (Key × Value)} {l : List DictEntry}, KV kvs vs → PySem.Pairs (mixKind X.prog X.w) l vs → (∀ p ∈ kvs, flatV p.2 = true) →
      ReadsAll s.heap (l.map (·.key)) (kvs.map fun p => fD (kV p.1)) [] ∧ ReadsAll s.heap (l.map (·.val)) (kvs.map fun p => fD p.2) [] := by
    intro kvs vs l r p
    induction r generalizing l with
    | nil => cases p; exact fun _ => ⟨.nil, .nil⟩
    | @cons q u qs us hq ht ih =>
      intro hf
      cases p with
      | @cons en kv es' kvs' h1 h2 h3 =>
        obtain ⟨i1, i2⟩ := ih h3 fun z hz => hf z (List.mem_cons_of_mem _ hz)
        have rk : RelV (kV q.1) en.key := by
          rcases keyIs_shape (show keyIs u.1 en.key = true from h1) with ⟨i, t, ek, ev⟩ | ⟨x, t, ek, ev⟩
          · rw [hq.1, ek, ev]; exact ⟨t, rfl⟩
          · rw [hq.1, ek, ev]; exact ⟨t, rfl⟩
        have fk : flatV (kV q.1) = true := by cases q.1 <;> rfl
        have rv : RelV q.2 en.val := by rw [h2]; exact hq.2
        exact ⟨ReadsAll.cons (rd_flat fk rk) i1, ReadsAll.cons (rd_flat (hf q List.mem_cons_self) rv) i2⟩
  obtain ⟨g1, g2⟩ := go rel hp hf
  refine ⟨Reads.dict (as := []) (bs := []) ho hx.1 hd ?_ ?_, fun z => by rw [z] at lo; cases lo⟩
  · rw [List.map_map]; exact g1
  · rw [List.map_map]; exact g2
end
/-- what a dict of flat values is -/
def dD (kvs : List (Key × V)) : PyData := .dict (kvs.map fun p => (fD (kV p.1), fD p.2))
def rRepr (K : PySem.W.Frag) : List V → Hp → VK → Prop := fun xs H Q => ∃ (a : Addr) (d : PyData), xs = [.ref a] ∧ ((Dp K H (.ref a) d ∧ d.hasDict = false) ∨ ∃ kvs, H a = some (.dK kvs) ∧ (∀ p ∈ kvs, flatV p.2 = true) ∧ d = dD kvs) ∧ fineD d = true ∧ d.depth ≤ 60 ∧ wtD d ≤ 1000000 ∧ Q (.str d.shown) H
theorem cr_repr {X : Cx} {K : PySem.W.Frag} (hg : X.A.guards = some []) (hu : X.A.units + 64 < cLine) (hK : X.K = K := by rfl) : CallR X (.builtin "repr") (rRepr K) := by
  subst hK
  intro pins s σ H xs us Q I r h
  obtain ⟨a, d, rfl, hd, fn, hz, wt, q⟩ := h
  rw [Vals.ref1 r]
  have h2 : (sizeLine : Nat) = 16777216 := sizeLine_eq
  have sz : d.shown.length ≤ sizeLine := by have := shown_wt d fn; omega
  have go : ∀ {as : List Addr}, Reads s.heap (.ref a) d as → (d.hasDict = true → sysModules ∉ as) → wpAny (model X.prog X.w) X.A (call (.builtin "repr") [.ref a]) (EP X pins σ Q) X.xe s := fun {as} rd hm =>
    repr_of_reads' rd (fine_show d fn) hm hg (by omega) (fun _ _ e => e) (fun h' u tk hk => ⟨.str d.shown, H, I.kept (t' := tk) hk, ⟨u, rfl⟩, q⟩) sz
  rcases hd with ⟨hd, nd⟩ | ⟨kvs, e, hf, rfl⟩
  · obtain ⟨as, rd⟩ := Dp.reads I d (.ref a) (.ref a) hd rfl
    exact go rd fun z => by rw [nd] at z; cases z
  · obtain ⟨rd, n⟩ := rd_dict I e hf
    exact go rd fun _ => by simpa using fun z => n z.symm

/-! Zl: list(zip(a, b)), the first items texts. -/
section
variable {prog : Program} {w : World} {A : Around} {E : Value → Shared → Prop} {s : Shared} {z TI TO i1 i2 T : Addr} {fp1 fp2 : List Addr} {n1 n2 i : Nat} {P1 P2 : Nat → Value → Prop} {St1 St2 : Nat → Heap → Prop} {f : Bool} {oT : Obj}
theorem zh_item {Q : Value → Shared → Prop} (Z : ZipSep2 z TI TO i1 i2 fp1 fp2) (D1 : Draws prog w A i1 fp1 n1 P1 St1) (D2 : Draws prog w A i2 fp2 n2 P2 St2)
    (hz : IsZipHeld s.heap z TI TO T f) (hT : s.heap.get? T = some oT) (hTI : IsTupOf2 s.heap TI (.ref i1) (.ref i2)) (st1 : St1 i s.heap) (st2 : St2 i s.heap) (l1 : i < n1) (l2 : i < n2)
    (hQ : ∀ x1 x2 h' tk, P1 i x1 → P2 i x2 → IsZipHeld h' z TI TO T true → St1 (i + 1) h' → St2 (i + 1) h' → IsTupOf2 h' s.heap.objs.size x1 x2 → h'.objs.size = s.heap.objs.size + 1 →
      (∀ b o, b ≠ z → b ≠ i1 → b ≠ i2 → s.heap.get? b = some o → h'.get? b = some o) → Q (.ref s.heap.objs.size) { s with heap := h', toks := tk }) :
    wpAny (model prog w) A (Builtin.«zip.__next__» ⟨[.ref z], []⟩) (fun fin s' => ∃ v, fin = .done (.ret v) ∧ Q v s') E s := by
  obtain ⟨hp, g, d, tk0, os⟩ := s
  change wpAny _ _ (field (.ref z) 2 >>= _) _ _ _
  refine wpAny_bind (wpAny_field (x := .bool false) hz rfl rfl ?_)
  change wpAny _ _ (field (.ref z) 3 >>= _) _ _ _
  refine wpAny_bind (wpAny_field (x := .ref TI) hz rfl rfl ?_)
  refine wpAny_bind (wpAny_seqItems hTI rfl ?_)
  change wpAny _ _ (Builtin.SmallTypes.ownedTupleIsFree (.ref z) >>= _) _ _ _
  refine wpAny_bind (wpAny_tupleHeld_zip hz hT fun h1 hz1 hs1 => ?_)
  replace hs1 : Heap.SameBut z hp h1 := hs1
  simp only [Bool.false_eq_true, if_false]
  refine wpAny_bind ?_
  rw [← Array.forIn_toList]
  simp only [List.forIn_cons, List.forIn_nil]
  refine wpAny_bind (wpAny_bind (wpAny_holding ?_))
  change wpAny _ _ (Builtin.SmallTypes.nextOf (.ref i1) >>= _) _ _ ⟨h1, g, d, tk0, os⟩
  refine wpAny_bind (D1.item i _ _ _ l1 (D1.over st1 hs1 Z.zf1) fun x1 p1 tk1 r1 sn1 hp1 => wpAny_pure (wpAny_pure ?_))
  replace hp1 : Heap.SameBut i1 h1 p1 := hp1
  refine wpAny_bind (wpAny_bind (wpAny_holding ?_))
  change wpAny _ _ (Builtin.SmallTypes.nextOf (.ref i2) >>= _) _ _ ⟨p1, g, d, tk1, os⟩
  refine wpAny_bind (D2.item i _ _ _ l2 (D2.over (D2.over st2 hs1 Z.zf2) hp1 Z.sep1_2) fun x2 p2 tk2 r2 sn2 hp2 => wpAny_pure (wpAny_pure (wpAny_pure ?_)))
  replace hp2 : Heap.SameBut i2 p1 p2 := hp2
  change wpAny _ _ (newTuple [x1, x2] >>= _) _ _ ⟨p2, g, d, tk2, os⟩
  refine wpAny_bind (wpAny_newTuple ?_)
  have sz : p2.objs.size = hp.objs.size := by rw [hp2.1, hp1.1, hs1.1]
  have hz2 : IsZipHeld p2 z TI TO T true := hp2.extBut _ _ Z.zi2 (hp1.extBut _ _ Z.zi1 hz1)
  have kp : ∀ b o, b ≠ z → b ≠ i1 → b ≠ i2 → hp.get? b = some o → p2.get? b = some o := fun b o c1 c2 c3 e => hp2.extBut _ _ c3 (hp1.extBut _ _ c2 (hs1.extBut _ _ c1 e))
  have t1 : St1 (i + 1) p2 := D1.over sn1 hp2 Z.sep2_1
  refine wpAny_pure ⟨_, rfl, ?_⟩
  change Q (.ref p2.objs.size) _
  have hn : IsTupOf2 (p2.push { cls := .type "tuple", data := .seq #[x1, x2] }) p2.objs.size x1 x2 := Heap.get?_push_size _ rfl
  have hz4 : (p2.push { cls := .type "tuple", data := .seq #[x1, x2] }).objs.size = p2.objs.size + 1 := Heap.size_push ..
  rw [sz] at hn hz4 ⊢
  exact hQ x1 x2 _ tk2 r1 r2 (Heap.get?_push_of_some _ hz2) (D1.frame _ _ _ t1 fun b _ o e => Heap.get?_push_of_some _ e) (D2.frame _ _ _ sn2 fun b _ o e => Heap.get?_push_of_some _ e) hn hz4 fun b o c1 c2 c3 e => Heap.get?_push_of_some _ (kp b o c1 c2 c3 e)
theorem zh_end {Q : Fin → Shared → Prop} (Z : ZipSep2 z TI TO i1 i2 fp1 fp2) (D1 : Draws prog w A i1 fp1 n1 P1 St1) (D2 : Draws prog w A i2 fp2 n2 P2 St2)
    (hz : IsZipHeld s.heap z TI TO T f) (hT : s.heap.get? T = some oT) (hTI : IsTupOf2 s.heap TI (.ref i1) (.ref i2)) (st1 : St1 i s.heap) (st2 : St2 i s.heap) (l1 : i ≤ n1) (l2 : i ≤ n2) (hend : i = n1 ∨ i = n2)
    (hE : ∀ h' tk e, (∀ b o, b ≠ z → b ≠ i1 → b ≠ i2 → s.heap.get? b = some o → h'.get? b = some o) → (∃ o, h'.get? e = some o ∧ o.cls = .type "StopIteration") → E (.ref e) { s with heap := h', toks := tk }) :
    wpAny (model prog w) A (Builtin.«zip.__next__» ⟨[.ref z], []⟩) Q E s := by
  obtain ⟨hp, g, d, tk0, os⟩ := s
  change wpAny _ _ (field (.ref z) 2 >>= _) _ _ _
  refine wpAny_bind (wpAny_field (x := .bool false) hz rfl rfl ?_)
  change wpAny _ _ (field (.ref z) 3 >>= _) _ _ _
  refine wpAny_bind (wpAny_field (x := .ref TI) hz rfl rfl ?_)
  refine wpAny_bind (wpAny_seqItems hTI rfl ?_)
  change wpAny _ _ (Builtin.SmallTypes.ownedTupleIsFree (.ref z) >>= _) _ _ _
  refine wpAny_bind (wpAny_tupleHeld_zip hz hT fun h1 hz1 hs1 => ?_)
  replace hs1 : Heap.SameBut z hp h1 := hs1
  simp only [Bool.false_eq_true, if_false]
  refine wpAny_bind ?_
  rw [← Array.forIn_toList]
  simp only [List.forIn_cons, List.forIn_nil]
  refine wpAny_bind (wpAny_bind (wpAny_holding ?_))
  change wpAny _ _ (Builtin.SmallTypes.nextOf (.ref i1) >>= _) _ _ ⟨h1, g, d, tk0, os⟩
  by_cases c : i < n1
  · refine wpAny_bind (D1.item i _ _ _ c (D1.over st1 hs1 Z.zf1) fun x1 p1 tk1 r1 sn1 hp1 => wpAny_pure (wpAny_pure ?_))
    replace hp1 : Heap.SameBut i1 h1 p1 := hp1
    have e2 : i = n2 := by omega
    refine wpAny_bind (wpAny_bind (wpAny_holding ?_))
    change wpAny _ _ (Builtin.SmallTypes.nextOf (.ref i2) >>= _) _ _ ⟨p1, g, d, tk1, os⟩
    refine wpAny_bind (D2.done ⟨p1, g, d, tk1, os⟩ _ _ (by rw [← e2]; exact D2.over (D2.over st2 hs1 Z.zf2) hp1 Z.sep1_2) fun q e hq he => ?_)
    replace hq : Heap.ExtBut i2 p1 q := hq
    exact hE q tk1 e (fun b o c1 c2 c3 x => hq _ _ c3 (hp1.extBut _ _ c2 (hs1.extBut _ _ c1 x))) he
  · have e1 : i = n1 := by omega
    refine wpAny_bind (D1.done ⟨h1, g, d, tk0, os⟩ _ _ (by rw [← e1]; exact D1.over st1 hs1 Z.zf1) fun q e hq he => ?_)
    replace hq : Heap.ExtBut i1 h1 q := hq
    exact hE q tk0 e (fun b o c1 c2 _ x => hq _ _ c2 (hs1.extBut _ _ c1 x)) he
end
/-- a zip's cells after i turns, the tuple given out last told (still out) or none given out yet; S is a list being filled -/
def ZSt (z TI TO i1 i2 : Addr) (St1 St2 : Nat → Heap → Prop) (S : Addr) (i : Nat) (h : Heap) : Prop :=
  IsTupOf2 h TI (.ref i1) (.ref i2) ∧ St1 i h ∧ St2 i h ∧ ((IsZip h z TI TO .none ∧ ∃ a b, IsTupOf2 h TO a b) ∨ ∃ T f oT, IsZipHeld h z TI TO T f ∧ h.get? T = some oT ∧ T ≠ z ∧ T ≠ i1 ∧ T ≠ i2 ∧ T ≠ S)
structure ZG (R : Nat → Value → Value → Prop) (lo : Addr) (h : Heap) (as : List Addr) : Prop where
  rise : as.Pairwise (· < ·)
  above : ∀ a ∈ as, lo < a
  pairs : ∀ (j : Nat) (a : Addr), as[j]? = some a → ∃ u v, R j u v ∧ h.get? a = some { cls := .type "tuple", data := .seq #[u, v] }
theorem ZG.there {R : Nat → Value → Value → Prop} {lo : Addr} {h : Heap} {as : List Addr} (g : ZG R lo h as) {a : Addr} (ha : a ∈ as) : a < h.objs.size := by
  obtain ⟨j, hj⟩ := List.mem_iff_getElem?.mp ha
  obtain ⟨_, _, _, e⟩ := g.pairs j a hj
  exact Heap.lt_size e
section
variable {prog : Program} {w : World} {A : Around} {E : Value → Shared → Prop} {s : Shared} {z TI TO i1 i2 S : Addr} {fp1 fp2 : List Addr} {n1 n2 i : Nat} {P1 P2 : Nat → Value → Prop} {St1 St2 : Nat → Heap → Prop}
theorem ZSt.keep {h h' : Heap} (x : ZSt z TI TO i1 i2 St1 St2 S i h) (D1 : Draws prog w A i1 fp1 n1 P1 St1) (D2 : Draws prog w A i2 fp2 n2 P2 St2) (hk : ∀ b o, b ≠ S → h.get? b = some o → h'.get? b = some o)
    (nz : z ≠ S) (nI : TI ≠ S) (nO : TO ≠ S) (n1 : S ∉ fp1) (n2 : S ∉ fp2) : ZSt z TI TO i1 i2 St1 St2 S i h' := by
  obtain ⟨a, b, c, d⟩ := x
  refine ⟨hk _ _ nI a, D1.frame _ _ _ b fun q hq o e => hk q o (fun y => n1 (y ▸ hq)) e, D2.frame _ _ _ c fun q hq o e => hk q o (fun y => n2 (y ▸ hq)) e, ?_⟩
  rcases d with ⟨d1, x, y, d2⟩ | ⟨T, f, oT, d1, d2, r1, r2, r3, r4⟩
  · exact .inl ⟨hk _ _ nz d1, x, y, hk _ _ nO d2⟩
  · exact .inr ⟨T, f, oT, hk _ _ nz d1, hk _ _ r4 d2, r1, r2, r3, r4⟩
theorem zs_item {Q : Option Value → Shared → Prop} (Z : ZipSep2 z TI TO i1 i2 fp1 fp2) (D1 : Draws prog w A.in1 i1 fp1 n1 P1 St1) (D2 : Draws prog w A.in1 i2 fp2 n2 P2 St2)
    (st : ZSt z TI TO i1 i2 St1 St2 S i s.heap) (l1 : i < n1) (l2 : i < n2) (hS : S < s.heap.objs.size)
    (hQ : ∀ x1 x2 h' tk, P1 i x1 → P2 i x2 → ZSt z TI TO i1 i2 St1 St2 S (i + 1) h' → h'.get? s.heap.objs.size = some { cls := .type "tuple", data := .seq #[x1, x2] } → h'.objs.size = s.heap.objs.size + 1 →
      (∀ b o, b ≠ z → b ≠ TO → b ≠ i1 → b ≠ i2 → s.heap.get? b = some o → h'.get? b = some o) → Q (some (.ref s.heap.objs.size)) { s with heap := h', toks := tk }) :
    wpAny (model prog w) A (pyNext (.ref z)) Q E s := by
  obtain ⟨hTI, s1, s2, d⟩ := st
  obtain ⟨o1, e1⟩ := D1.live _ _ s1
  obtain ⟨o2, e2⟩ := D2.live _ _ s2
  have m1 : s.heap.objs.size ≠ i1 := Nat.ne_of_gt (Heap.lt_size e1)
  have m2 : s.heap.objs.size ≠ i2 := Nat.ne_of_gt (Heap.lt_size e2)
  rcases d with ⟨hz, a, b, hTO⟩ | ⟨T, f, oT, hz, hT, r1, r2, r3, r4⟩
  · refine wpAny_pyNext_zipD2_item Z D1 D2 hz hTI hTO s1 s2 l1 l2 fun x1 x2 h' tk y1 y2 b1 b2 d1 d2 b5 b6 b7 => hQ x1 x2 h' tk y1 y2 ⟨b7 _ _ Z.TIz Z.TITO Z.TIi1 Z.TIi2 hTI, d1, d2, .inr ⟨_, false, _, b1, b5, Nat.ne_of_gt (Heap.lt_size hz), m1, m2, Nat.ne_of_gt hS⟩⟩ b5 b6 b7
  · have hTy : s.TypeIs (.ref z) "zip" := ⟨_, hz, rfl⟩
    unfold pyNext
    refine wpAny_bind (wpAny_attempt (wpAny_callSpecial?_slot (name := Str.ofString "__next__") hTy F.slot_zip_next
      (wpAny_call_entry F.slot_zip_next hTy F.entry_zip_next (zh_item Z D1 D2 hz hT hTI s1 s2 l1 l2 fun x1 x2 h' tk y1 y2 b1 d1 d2 b5 b6 b7 => wpAny_pure
        (hQ x1 x2 h' tk y1 y2 ⟨b7 _ _ Z.TIz Z.TIi1 Z.TIi2 hTI, d1, d2, .inr ⟨T, true, oT, b1, b7 _ _ r1 r2 r3 hT, r1, r2, r3, r4⟩⟩ b5 b6 fun b o c1 _ c3 c4 e => b7 b o c1 c3 c4 e)) (F.args_zip_next_1 _))))
theorem zs_end {Q : Option Value → Shared → Prop} (Z : ZipSep2 z TI TO i1 i2 fp1 fp2) (D1 : Draws prog w A.in1 i1 fp1 n1 P1 St1) (D2 : Draws prog w A.in1 i2 fp2 n2 P2 St2)
    (st : ZSt z TI TO i1 i2 St1 St2 S i s.heap) (l1 : i ≤ n1) (l2 : i ≤ n2) (hend : i = n1 ∨ i = n2)
    (hQ : ∀ h' tk, (∀ b o, b ≠ z → b ≠ TO → b ≠ i1 → b ≠ i2 → s.heap.get? b = some o → h'.get? b = some o) → Q none { s with heap := h', toks := tk }) :
    wpAny (model prog w) A (pyNext (.ref z)) Q E s := by
  obtain ⟨hTI, s1, s2, d⟩ := st
  rcases d with ⟨hz, a, b, hTO⟩ | ⟨T, f, oT, hz, hT, r1, r2, r3, r4⟩
  · exact wpAny_pyNext_zipD2_end Z D1 D2 hz hTI hTO s1 s2 l1 l2 hend hQ
  · have hTy : s.TypeIs (.ref z) "zip" := ⟨_, hz, rfl⟩
    unfold pyNext
    refine wpAny_bind (wpAny_attempt (wpAny_callSpecial?_slot (name := Str.ofString "__next__") hTy F.slot_zip_next
      (wpAny_call_entry F.slot_zip_next hTy F.entry_zip_next (zh_end Z D1 D2 hz hT hTI s1 s2 l1 l2 hend fun h' tk e hk he => ?_) (F.args_zip_next_1 _))))
    obtain ⟨o, ho, hc⟩ := he
    refine wpAny_bind (wpAny_isInstance (T := "StopIteration") (b := true) ⟨o, ho, hc⟩ isSubtype_stop ?_)
    exact wpAny_pure (hQ _ _ fun b o c1 _ c3 c4 e => hk b o c1 c3 c4 e)
theorem zl_loop {R : Result → Shared → Prop} (Z : ZipSep2 z TI TO i1 i2 fp1 fp2) (D1 : Draws prog w A.in1.in1 i1 fp1 n1 P1 St1) (D2 : Draws prog w A.in1.in1 i2 fp2 n2 P2 St2)
    (nz : z ≠ S) (nI : TI ≠ S) (nO : TO ≠ S) (m1 : S ∉ fp1) (m2 : S ∉ fp2) (hS1 : S ≠ i1) (hS2 : S ≠ i2) (lz : z < S) (lO : TO < S) (l1 : i1 < S) (l2 : i2 < S) (n : Nat) (hn1 : n ≤ n1) (hn2 : n ≤ n2) (hend : n = n1 ∨ n = n2) (hn : n ≤ sizeLine) (res : Value) {h₁ : Heap}
    (hR : ∀ h' tk acc c as, (∀ b o, b ≠ S → b ≠ z → b ≠ TO → b ≠ i1 → b ≠ i2 → h₁.get? b = some o → h'.get? b = some o) → h'.get? S = some { cls := .type "list", dict := none, data := .seq acc c, slots := #[] } → as.length = n → ZG (fun j u v => P1 j u ∧ P2 j v) S h' as →
      acc.toList = as.map Value.ref → R (.ok (.ret res)) { s with heap := h', toks := tk }) :
    ∀ (k i : Nat) (h : Heap) (tk c : Nat) (acc : Array Value) (as : List Addr), n - i = k → i ≤ n → ZSt z TI TO i1 i2 St1 St2 S i h → (∀ b o, b ≠ S → b ≠ z → b ≠ TO → b ≠ i1 → b ≠ i2 → h₁.get? b = some o → h.get? b = some o) →
      h.get? S = some { cls := .type "list", dict := none, data := .seq acc c, slots := #[] } → acc.toList = as.map Value.ref → as.length = i → ZG (fun j u v => P1 j u ∧ P2 j v) S h as →
      codeAny (model prog w) A (.builtin "list.extend.loop" ⟨[.ref S, .ref z, res], []⟩) R { s with heap := h, toks := tk } := by
  intro k
  induction k with
  | zero =>
    intro i h tk c acc as hk hi hst hkeep hS hacc hal hG
    have hin : i = n := by omega
    refine codeAny_builtin PySem.F.entry_extend_loop ?_
    rw [Around.under_plainId PySem.F.plain_extend_loop _]
    change wpAny _ A.in1 (pyNext (.ref z) >>= _) _ _ _
    refine wpAny_bind (zs_end (s := { s with heap := h, toks := tk }) (A := A.in1) Z D1 D2 hst (by omega) (by omega) (by omega) fun h' tk' he => ?_)
    refine wpAny_pure (hR h' tk' acc c as (fun b o h1 h2 h3 h4 h5 e => he b o h2 h3 h4 h5 (hkeep b o h1 h2 h3 h4 h5 e)) (he S _ (Ne.symm nz) (Ne.symm nO) hS1 hS2 hS) (by omega) ⟨hG.rise, hG.above, fun j a hj => ?_⟩ hacc)
    obtain ⟨u, v, e1, e2⟩ := hG.pairs j a hj
    have hb := hG.above a (List.mem_of_getElem? hj)
    exact ⟨u, v, e1, he a _ (Nat.ne_of_gt (Nat.lt_trans lz hb)) (Nat.ne_of_gt (Nat.lt_trans lO hb)) (Nat.ne_of_gt (Nat.lt_trans l1 hb)) (Nat.ne_of_gt (Nat.lt_trans l2 hb)) e2⟩
  | succ k ih =>
    intro i h tk c acc as hk hi hst hkeep hS hacc hal hG
    have hlt : i < n := by omega
    have hsz : acc.size = i := by rw [← Array.length_toList, hacc, List.length_map, hal]
    refine codeAny_builtin PySem.F.entry_extend_loop ?_
    rw [Around.under_plainId PySem.F.plain_extend_loop _]
    change wpAny _ A.in1 (pyNext (.ref z) >>= _) _ _ _
    refine wpAny_bind (zs_item (s := { s with heap := h, toks := tk }) (A := A.in1) Z D1 D2 hst (by omega) (by omega) (Heap.lt_size hS) fun x1 x2 h' tk' p1 p2 hst' ht hz hkp => ?_)
    dsimp only at ht hz hkp ⊢
    have hS' := hkp S _ (Ne.symm nz) (Ne.symm nO) hS1 hS2 hS
    have up : ∀ b o, b ≠ S → h'.get? b = some o → (h'.update S (Obj.mapSeq (·.push (Value.ref h.objs.size)))).get? b = some o := fun b o hb e => (Heap.get?_update_other _ _ (Ne.symm hb)).trans e
    have hSl : S < h.objs.size := Heap.lt_size hS
    change wpAny _ A.in1 (updateSeq S (·.push (Value.ref h.objs.size)) >>= _) _ _ _
    refine wpAny_bind ?_
    refine wpAny_updateSeq hS' rfl (wpAny_pure ⟨plainId_quiet PySem.F.plain_extend_loop _, ih (i + 1) _ tk' _ (acc.push (Value.ref h.objs.size)) (as ++ [h.objs.size]) (by omega) hlt (hst'.keep D1 D2 up nz nI nO m1 m2)
      (fun b o h1 h2 h3 h4 h5 e => up b o h1 (hkp b o h2 h3 h4 h5 (hkeep b o h1 h2 h3 h4 h5 e))) (Heap.get?_update_self _ hS' rfl) (by rw [Array.toList_push, hacc, List.map_append]; rfl) (by rw [List.length_append, hal]; rfl) ⟨?_, ?_, ?_⟩⟩) (by rw [hsz]; omega) (by change (acc.push (Value.ref h.objs.size)).size ≤ sizeLine + 1; rw [Array.size_push, hsz]; omega)
    · refine List.pairwise_append.mpr ⟨hG.rise, List.pairwise_singleton _ _, fun a ha b hb => ?_⟩
      rw [List.mem_singleton.mp hb]
      exact hG.there ha
    · intro a ha
      rcases List.mem_append.mp ha with ha | ha
      · exact hG.above a ha
      · rw [List.mem_singleton.mp ha]; exact hSl
    · intro j b hj
      rcases Nat.lt_trichotomy j as.length with q1 | q1 | q1
      · rw [List.getElem?_append_left q1] at hj
        obtain ⟨u, v, e1, e2⟩ := hG.pairs j b hj
        have hb := hG.above b (List.mem_of_getElem? hj)
        exact ⟨u, v, e1, up b _ (Nat.ne_of_gt hb) (hkp b _ (Nat.ne_of_gt (Nat.lt_trans lz hb)) (Nat.ne_of_gt (Nat.lt_trans lO hb)) (Nat.ne_of_gt (Nat.lt_trans l1 hb)) (Nat.ne_of_gt (Nat.lt_trans l2 hb)) e2)⟩
      · subst q1
        have hb : h.objs.size = b := by simpa using hj
        subst hb
        exact ⟨x1, x2, by rw [hal]; exact ⟨p1, p2⟩, up _ _ (Nat.ne_of_gt hSl) ht⟩
      · have hnone : (as ++ [h.objs.size])[j]? = none := List.getElem?_eq_none (by rw [List.length_append, List.length_singleton]; omega)
        rw [hnone] at hj; cases hj
end
theorem zip_no_len : typeLookup (.type "zip") "__len__" = pure none := by rw [typeLookup_type, builtinLookup_eq_fast]; kernel_rfl
theorem zip_no_hint : typeLookup (.type "zip") "__length_hint__" = pure none := by rw [typeLookup_type, builtinLookup_eq_fast]; kernel_rfl
/-- a zip none of whose tuples is out, ahead of its first turn -/
structure Z0 (z TI TO i1 i2 : Addr) (St1 St2 : Nat → Heap → Prop) (h : Heap) : Prop where
  z : IsZip h z TI TO .none
  ti : IsTupOf2 h TI (.ref i1) (.ref i2)
  to : ∃ a b, IsTupOf2 h TO a b
  s1 : St1 0 h
  s2 : St2 0 h
section
variable {prog : Program} {w : World} {A : Around} {E : Value → Shared → Prop} {s : Shared} {z TI TO i1 i2 S : Addr} {fp1 fp2 : List Addr} {n1 n2 n : Nat} {P1 P2 : Nat → Value → Prop} {St1 St2 : Nat → Heap → Prop}
theorem Z0.st {h : Heap} (x : Z0 z TI TO i1 i2 St1 St2 h) : ZSt z TI TO i1 i2 St1 St2 S 0 h := ⟨x.ti, x.s1, x.s2, .inl ⟨x.z, x.to⟩⟩
theorem Z0.keep {h h' : Heap} (x : Z0 z TI TO i1 i2 St1 St2 h) (D1 : Draws prog w A i1 fp1 n1 P1 St1) (D2 : Draws prog w A i2 fp2 n2 P2 St2) (hk : ∀ b o, b ≠ S → h.get? b = some o → h'.get? b = some o)
    (nz : z ≠ S) (nI : TI ≠ S) (nO : TO ≠ S) (n1 : S ∉ fp1) (n2 : S ∉ fp2) : Z0 z TI TO i1 i2 St1 St2 h' :=
  ⟨hk _ _ nz x.z, hk _ _ nI x.ti, let ⟨a, b, c⟩ := x.to; ⟨a, b, hk _ _ nO c⟩, D1.frame _ _ _ x.s1 fun q hq o e => hk q o (fun y => n1 (y ▸ hq)) e, D2.frame _ _ _ x.s2 fun q hq o e => hk q o (fun y => n2 (y ▸ hq)) e⟩
/-- what a call of list(..) needs of a zip's cells: all lie below S -/
structure ZLow (z TI TO i1 i2 : Addr) (fp1 fp2 : List Addr) (S : Addr) : Prop where
  lz : z < S
  lI : TI < S
  lO : TO < S
  f1 : ∀ b ∈ fp1, b < S
  f2 : ∀ b ∈ fp2, b < S
theorem zl_extend {R : Result → Shared → Prop} (Z : ZipSep2 z TI TO i1 i2 fp1 fp2) (D1 : Draws prog w A.in1.in1 i1 fp1 n1 P1 St1) (D2 : Draws prog w A.in1.in1 i2 fp2 n2 P2 St2) (L : ZLow z TI TO i1 i2 fp1 fp2 S) (x : Z0 z TI TO i1 i2 St1 St2 s.heap)
    (hn1 : n ≤ n1) (hn2 : n ≤ n2) (hend : n = n1 ∨ n = n2) (hn : n ≤ sizeLine) (res : Value) (c₀ : Nat) (hS : s.heap.get? S = some { cls := .type "list", data := .seq #[] c₀ })
    (hR : ∀ h' tk acc c as, (∀ b o, b ≠ S → b ≠ z → b ≠ TO → b ≠ i1 → b ≠ i2 → s.heap.get? b = some o → h'.get? b = some o) → h'.get? S = some { cls := .type "list", dict := none, data := .seq acc c, slots := #[] } → as.length = n → ZG (fun j u v => P1 j u ∧ P2 j v) S h' as →
      acc.toList = as.map Value.ref → R (.ok (.ret res)) { s with heap := h', toks := tk }) :
    wpAny (model prog w) A.in1 (Builtin.List.listExtendWith (.ref S) (.ref z) res)
      (fun fin s' => match fin with | .done f => R (.ok f) s' | .again c' => c'.quiet = true ∧ codeAny (model prog w) A c' R s') (fun e s' => R (.error e) s') s := by
  have hT : s.TypeIs (.ref z) "zip" := ⟨_, x.z, rfl⟩
  have nz := Nat.ne_of_lt L.lz
  have nI := Nat.ne_of_lt L.lI
  have nO := Nat.ne_of_lt L.lO
  have m1 : S ∉ fp1 := fun q => Nat.lt_irrefl _ (L.f1 _ q)
  have m2 : S ∉ fp2 := fun q => Nat.lt_irrefl _ (L.f2 _ q)
  have q1 := L.f1 _ Z.mem1
  have q2 := L.f2 _ Z.mem2
  unfold Builtin.List.listExtendWith
  refine wpAny_bind (wpAny_typeOf hT ?_)
  have e1 : Builtin.List.listSameRef (.ref S) (.ref z) = false := by simp [Builtin.List.listSameRef, Ne.symm nz]
  have e2 : (Value.type "zip" == Value.type "list") = false := by decide
  have e3 : (Value.type "zip" == Value.type "tuple") = false := by decide
  simp only [e1, e2, e3, Bool.or_false, Bool.false_eq_true, if_false]
  refine wpAny_bind (wpAny_pyIter_zip x.z ?_)
  refine wpAny_bind (wpAny_holding ?_)
  unfold Builtin.List.listLengthHint
  refine wpAny_bind (wpAny_specialOf hT zip_no_len ?_)
  change wpAny _ A.in1 (specialOf (Value.ref z) (Str.ofString "__length_hint__") >>= _) _ _ _
  refine wpAny_bind (wpAny_specialOf hT zip_no_hint ?_)
  refine wpAny_pure ?_
  change wpAny _ A.in1 (rule "list.extend.makes-room" >>= fun _ => Builtin.List.listTouch (.ref S) >>= fun _ => again (.builtin "list.extend.loop" ⟨[.ref S, .ref z, res], []⟩)) _ _ _
  refine wpAny_bind (wpAny_rule ?_)
  refine wpAny_bind ?_
  change wpAny _ A.in1 (updateSeq S (·.push .none) >>= fun _ => updateSeq S (·.pop)) _ _ _
  refine wpAny_bind (wpAny_updateSeq hS rfl ?_)
  have g2 := Heap.get?_update_self (Obj.mapSeq (·.push Value.none)) hS rfl
  refine wpAny_updateSeq (hz := by seq_fits) g2 rfl ?_
  have g3 := Heap.get?_update_self (Obj.mapSeq (·.pop)) g2 rfl
  have oth : ∀ b o, b ≠ S → s.heap.get? b = some o → ((s.heap.update S (Obj.mapSeq (·.push Value.none))).update S (Obj.mapSeq (·.pop))).get? b = some o :=
    fun b o hb e => (Heap.get?_update_other _ _ (Ne.symm hb)).trans ((Heap.get?_update_other _ _ (Ne.symm hb)).trans e)
  exact wpAny_pure ⟨plainId_quiet PySem.F.plain_extend_loop _, zl_loop (s := s) (h₁ := s.heap) Z D1 D2 nz nI nO m1 m2 (Nat.ne_of_gt q1) (Nat.ne_of_gt q2) L.lz L.lO q1 q2 n hn1 hn2 hend hn res hR n 0 _ _ _ #[] [] (Nat.sub_zero _) (Nat.zero_le _)
    (Z0.st (x.keep D1 D2 oth nz nI nO m1 m2)) (fun b o hb _ _ _ _ e => oth b o hb e) g3 rfl rfl ⟨List.Pairwise.nil, (fun _ ha => nomatch ha), (fun j a hj => by simp at hj)⟩⟩
theorem zl_init {R : Result → Shared → Prop} (Z : ZipSep2 z TI TO i1 i2 fp1 fp2) (D1 : Draws prog w A.in1.in1 i1 fp1 n1 P1 St1) (D2 : Draws prog w A.in1.in1 i2 fp2 n2 P2 St2) (L : ZLow z TI TO i1 i2 fp1 fp2 S) (x : Z0 z TI TO i1 i2 St1 St2 s.heap)
    (hn1 : n ≤ n1) (hn2 : n ≤ n2) (hend : n = n1 ∨ n = n2) (hn : n ≤ sizeLine) (hS : s.heap.get? S = some { cls := .type "list", data := .seq #[] })
    (hR : ∀ h' tk acc c as, (∀ b o, b ≠ S → b ≠ z → b ≠ TO → b ≠ i1 → b ≠ i2 → s.heap.get? b = some o → h'.get? b = some o) → h'.get? S = some { cls := .type "list", dict := none, data := .seq acc c, slots := #[] } → as.length = n → ZG (fun j u v => P1 j u ∧ P2 j v) S h' as →
      acc.toList = as.map Value.ref → R (.ok (.ret .none)) { s with heap := h', toks := tk }) :
    wpAny (model prog w) A.in1 (Builtin.«list.__init__» ⟨[.ref S, .ref z], []⟩)
      (fun fin s' => match fin with | .done f => R (.ok f) s' | .again c' => c'.quiet = true ∧ codeAny (model prog w) A c' R s') (fun e s' => R (.error e) s') s := by
  change wpAny _ _ (do let old ← Builtin.List.listItems (.ref S); Builtin.List.listUpdate (.ref S) (fun _ => #[]); letGo old.toList.reverse; Builtin.List.listExtendWith (.ref S) (.ref z) .none) _ _ s
  refine wpAny_bind ?_
  unfold Builtin.List.listItems
  refine wpAny_bind (wpAny_seqItems hS rfl (wpAny_pure ?_))
  change wpAny _ _ (updateSeq S (fun _ => #[]) >>= fun _ => letGo (#[] : Array Value).toList.reverse >>= fun _ => Builtin.List.listExtendWith (.ref S) (.ref z) .none) _ _ s
  refine wpAny_bind (wpAny_updateSeq hS rfl ?_)
  have g2 := Heap.get?_update_self (Obj.mapSeq (fun _ => (#[] : Array Value))) hS rfl
  have oth : ∀ b o, b ≠ S → s.heap.get? b = some o → (s.heap.update S (Obj.mapSeq (fun _ => (#[] : Array Value)))).get? b = some o :=
    fun b o hb e => (Heap.get?_update_other _ _ (Ne.symm hb)).trans e
  refine wpAny_bind (wpAny_letGo ?_)
  exact zl_extend Z D1 D2 L (x.keep D1 D2 oth (Nat.ne_of_lt L.lz) (Nat.ne_of_lt L.lI) (Nat.ne_of_lt L.lO) (fun q => Nat.lt_irrefl _ (L.f1 _ q)) (fun q => Nat.lt_irrefl _ (L.f2 _ q))) hn1 hn2 hend hn .none _ g2
    fun h' tk acc c as hk hS' hl hG hacc => hR h' tk acc c as (fun b o c1 c2 c3 c4 c5 e => hk b o c1 c2 c3 c4 c5 (oth b o c1 e)) hS' hl hG hacc
theorem zl_call {Q : Value → Shared → Prop} (Z : ZipSep2 z TI TO i1 i2 fp1 fp2) (D1 : Draws prog w A.in1.in1.in1 i1 fp1 n1 P1 St1) (D2 : Draws prog w A.in1.in1.in1 i2 fp2 n2 P2 St2) (L : ZLow z TI TO i1 i2 fp1 fp2 s.heap.objs.size) (x : Z0 z TI TO i1 i2 St1 St2 s.heap)
    (hn1 : n ≤ n1) (hn2 : n ≤ n2) (hend : n = n1 ∨ n = n2) (hn : n ≤ sizeLine)
    (hQ : ∀ h' tk acc c as, (∀ b o, b ≠ z → b ≠ TO → b ≠ i1 → b ≠ i2 → s.heap.get? b = some o → h'.get? b = some o) → h'.get? s.heap.objs.size = some { cls := .type "list", dict := none, data := .seq acc c, slots := #[] } → as.length = n → ZG (fun j u v => P1 j u ∧ P2 j v) s.heap.objs.size h' as →
      acc.toList = as.map Value.ref → Q (.ref s.heap.objs.size) { s with heap := h', toks := tk }) :
    wpAny (model prog w) A (call (.type "list") [.ref z]) Q E s := by
  refine callType_codes (Q₁ := fun obj s₁ => obj = .ref s.heap.objs.size ∧ s₁ = { s with heap := s.heap.push { cls := .type "list", data := .seq #[] } }) PySem.F.called_list (PySem.F.typeCall_list_1 _) PySem.F.entry_list_init
    (code_list_new _ ⟨rfl, rfl⟩) fun obj s₁ h₁ => ?_
  obtain ⟨rfl, rfl⟩ := h₁
  have hS : (s.heap.push { cls := .type "list", data := .seq #[] }).get? s.heap.objs.size = some { cls := .type "list", data := .seq #[] } := Heap.get?_push_size _ rfl
  refine ⟨⟨_, hS, rfl⟩, PySem.F.args_list_init_2 _ _, zl_init (A := A.in1) Z D1 D2 L (x.keep (S := s.heap.objs.size) D1 D2 (fun b o _ e => Heap.get?_push_of_some _ e) (Nat.ne_of_lt L.lz) (Nat.ne_of_lt L.lI) (Nat.ne_of_lt L.lO) (fun q => Nat.lt_irrefl _ (L.f1 _ q)) (fun q => Nat.lt_irrefl _ (L.f2 _ q))) hn1 hn2 hend hn hS (fun h' tk acc c as hk hS' hl hG hacc => ?_)⟩
  exact ⟨rfl, hQ h' tk acc c as (fun b o c2 c3 c4 c5 e => hk b o (Nat.ne_of_lt (Heap.lt_size e)) c2 c3 c4 c5 (Heap.get?_push_of_some _ e)) hS' hl hG hacc⟩
end
section
variable {X : Cx}
theorem zl_laid {pins : List (Addr × Obj)} {σ : L2.St} {H : Hp} {s : Shared} {h' : Heap} {tk : Nat} {kvs : List (Key × V)} {vs : List (Key × Value)} {acc : Array Value} {c : Nat} {as : List Addr} {S : Addr} (I : Inv X pins σ H s) (hS0 : s.heap.objs.size ≤ S) (hz : kvs.length ≤ sizeLine) (kv : KV kvs vs)
    (hk : ∀ b o, s.heap.get? b = some o → h'.get? b = some o) (hS : h'.get? S = some { cls := .type "list", dict := none, data := .seq acc c, slots := #[] }) (hl : as.length = vs.length)
    (hG : ZG (fun j u v => ∃ k, vs[j]? = some (k, v) ∧ keyIs k u = true) S h' as) (hacc : acc.toList = as.map Value.ref) :
    ∃ H' : Hp, (∀ b o, H b = some o → H' b = some o) ∧ H S = none ∧ (∀ t ∈ as, H t = none) ∧ S ∉ as ∧ H' S = some (.lst (as.map V.ref)) ∧ Paired (fun (t : Addr) (q : Key × V) => H' t = some (.tup [kV q.1, q.2])) as kvs ∧ Inv X pins σ H' { s with heap := h', toks := tk } := by
  have lk : kvs.length = vs.length := Paired.length kv
  have nS : S ∉ as := fun z => Nat.lt_irrefl _ (hG.above _ z)
  have nd : as.Nodup := List.Pairwise.imp (fun {a b} (h : a < b) => Nat.ne_of_lt h) hG.rise
  have new : ∀ t ∈ as, H t = none := fun t ht => I.hok.fresh (Nat.le_trans hS0 (Nat.le_of_lt (hG.above t ht)))
  have newS : H S = none := I.hok.fresh hS0
  have atP := LiI.putT_at as kvs (upd H S (.lst (as.map V.ref))) (by omega) nd
  have off : ∀ b, b ∉ as → b ≠ S → LiI.putT (upd H S (.lst (as.map V.ref))) as kvs b = H b := fun b h1 h2 => by rw [LiI.putT_off as kvs _ h1, upd_ne h2]
  have low : ∀ b o, s.heap.get? b = some o → b ∉ as ∧ b ≠ S := fun b o e =>
    ⟨fun z => absurd (Nat.lt_of_lt_of_le (Heap.lt_size e) hS0) (Nat.not_lt.mpr (Nat.le_of_lt (hG.above b z))), Nat.ne_of_lt (Nat.lt_of_lt_of_le (Heap.lt_size e) hS0)⟩
  have kp : ∀ b u, H b = some u → (LiI.putT (upd H S (.lst (as.map V.ref))) as kvs) b = some u := fun b u e => by
    rw [off b (fun z => by rw [new b z] at e; cases e) (fun z => by rw [z, newS] at e; cases e)]
    exact e
  have eS : LiI.putT (upd H S (.lst (as.map V.ref))) as kvs S = some (.lst (as.map V.ref)) := by rw [LiI.putT_off as kvs _ nS, upd_same]
  refine ⟨LiI.putT (upd H S (.lst (as.map V.ref))) as kvs, kp, newS, new, nS, eS, atP, ?_⟩
  refine I.call' (ch := []) rfl ⟨fun b o q _ _ _ => hk b o q, fun b o q _ _ _ => ⟨o.slots, hk b o q⟩, fun b o q n _ => ?_, fun b o q _ => ⟨o, hk b o q⟩, fun b xs q => kp b _ q, fun b o u q => kp b _ q, fun b ps q => ⟨#[], by rw [kp b _ q]; simp⟩⟩ (fun b u q => ?_) I.bare fun b z => by simp at z
  · obtain ⟨z1, z2⟩ := low b o q
    rw [off b z1 z2]
    exact n
  · by_cases hb : b ∈ as
    · obtain ⟨j, pk, e1, e2, e3⟩ := LiI.paired_ix atP hb
      rw [e3] at q
      cases q
      obtain ⟨key, x, ⟨k, f1, f2⟩, f3⟩ := hG.pairs j b e1
      obtain ⟨qv, g1, g2, g3⟩ := LiI.paired_get kv e2
      rw [f1] at g1
      cases g1
      have rk : RelV (kV pk.1) key := by
        rw [g2]
        exact relV_key f2
      exact ⟨by show 2 ≤ sizeLine; decide, [key, x], .cons rk (.cons g3 .nil), ⟨_, f3, rfl, _, rfl⟩⟩
    · by_cases hb2 : b = S
      · rw [hb2] at q ⊢
        rw [eS] at q
        cases q
        refine ⟨by rw [List.length_map]; omega, acc.toList, c, by rw [hacc]; exact LiI.vals_refs as, ?_⟩
        rw [Array.toArray_toList]
        exact hS
      · rw [off b hb hb2] at q
        exact (I.hok b u q).stay (fun d v _ y => hk d v y) (fun d y => kp d _ y) fun d xs y => kp d _ y
end
/-- list(zip(a, b)): new pairs, by ks (texts) and ys, as many as the shorter has -/
def tListZip (K : PySem.W.Frag) (ta : TA) : TE := fun σ H Q => ta σ H fun us H1 => ∃ (a b : Addr) (ks : List Str) (ys : List V), us = [.ref a, .ref b] ∧ SqL K H1 a (ks.map V.str) ∧ SqL K H1 b ys ∧
  ∀ (H' : Hp) (p : Addr) (ts : List Addr), Same H1 H' → H1 p = none → (∀ t ∈ ts, H1 t = none) → p ∉ ts → H' p = some (.lst (ts.map V.ref)) → Paired (fun (t : Addr) (q : Key × V) => H' t = some (.tup [kV q.1, q.2])) ts ((ks.map Sum.inr).zip ys) → Q (.ref p) H'
theorem zip_sep (I l1 l2 : Nat) (h1 : l1 < I) (h2 : l2 < I) : ZipSep2 (I + 4) (I + 2) (I + 3) I (I + 1) [I, l1] [I + 1, l2] := by
  have n4 : I + 4 ≠ l1 := Nat.ne_of_gt (Nat.lt_of_lt_of_le h1 (Nat.le_add_right _ _))
  have m4 : I + 4 ≠ l2 := Nat.ne_of_gt (Nat.lt_of_lt_of_le h2 (Nat.le_add_right _ _))
  have n3 : I + 3 ≠ l1 := Nat.ne_of_gt (Nat.lt_of_lt_of_le h1 (Nat.le_add_right _ _))
  have m3 : I + 3 ≠ l2 := Nat.ne_of_gt (Nat.lt_of_lt_of_le h2 (Nat.le_add_right _ _))
  have n0 : I ≠ l2 := Nat.ne_of_gt h2
  have n1 : I + 1 ≠ l1 := Nat.ne_of_gt (Nat.lt_of_lt_of_le h1 (Nat.le_add_right _ _))
  constructor <;> simp [n4, m4, n3, m3, n0, n1]
theorem get_zip {α β : Type} : ∀ {xs : List α} {ys : List β} {j : Nat} {x : α} {y : β}, xs[j]? = some x → ys[j]? = some y → (xs.zip ys)[j]? = some (x, y)
  | [], _, _, _, _, h, _ => by simp at h
  | _ :: _, [], _, _, _, _, h => by simp at h
  | _ :: _, _ :: _, 0, _, _, h1, h2 => by rw [show _ = _ from Option.some.inj h1, show _ = _ from Option.some.inj h2]; rfl
  | _ :: xs, _ :: ys, j + 1, x, y, h1, h2 => get_zip (xs := xs) (ys := ys) (j := j) h1 h2
theorem kv_zip : ∀ {ks : List Str} {ys : List V} {vs : List Value}, Vals ys vs → KV ((ks.map (Sum.inr : Str → Key)).zip ys) ((ks.map (Sum.inr : Str → Key)).zip vs)
  | [], _, _, _ => .nil
  | _ :: _, _, _, .nil => .nil
  | k :: ks, _, _, .cons r t => .cons ⟨rfl, r⟩ (kv_zip (ks := ks) t)
theorem val_str {k : Str} {u : Value} (h : RelV (.str k) u) : keyIs (.inr k : Key) u = true := by
  obtain ⟨t, e⟩ := h
  rw [e]
  simp [keyIs, Value.isStrOf]
theorem paired_getR {α β : Type} {F : α → β → Prop} : ∀ {xs : List α} {ys : List β}, Paired F xs ys → ∀ {i : Nat} {y : β}, ys[i]? = some y → ∃ x, xs[i]? = some x ∧ F x y
  | _, _, .nil, i, y, h => by cases h
  | _, _, .cons r t, 0, y, h => by
    have e := Option.some.inj h
    subst e
    exact ⟨_, rfl, r⟩
  | _, _, .cons r t, i + 1, y, h => paired_getR t h
theorem boot_zip' : bootBuiltins "zip" = some (.type "zip") := PyProof.Rows.boot_zip
section
variable {X : Cx} {e e2 : Expr} {ta : TA} {p p2 cpos pos : Pos}
theorem pe_listZip (hc : X.calm = true) (hm : X.mg "list" = none) (hm2 : X.mg "zip" = none) (ha : PA X [e, e2] ta) (hg : Gl X "list" := by rfl) (hg2 : Gl X "zip" := by rfl)
    (hs2 : starEach [e, e2] X.env = (false, eval e X.env) :: starEach [e2] X.env := by rfl) (hpl : (backTo cpos (starEach [e2] X.env)).any (·.1) = false := by rfl)
    (hs : starEach [.Call (.Name "zip" p2) [e, e2] [] cpos] X.env = (false, eval (.Call (.Name "zip" p2) [e, e2] [] cpos) X.env) :: starEach [] X.env := by rfl) :
    PE X (.Call (.Name "list" p) [.Call (.Name "zip" p2) [e, e2] [] cpos] [] pos) (tListZip X.K ta) := by
  refine ⟨fun pins s σ H Q I hq => ?_⟩
  refine wpAny_Call_Name_kw (ld_blt I hg hm boot_list' ?_)
  refine PyProof.Rows.callWith_type1 ?_ hs rfl
  rw [hs]
  refine Calls.spliced_cons (wpAny_Call_Name_kw (ld_blt I hg2 hm2 PyProof.Rows.boot_zip (PyProof.Rows.callWith_type1 (thn (ha.run cpos pins s σ H _ I hq) fun us s1 ⟨vs, H1, I1, r1, q1⟩ => ?_) hs2 hpl)))
  obtain ⟨a, b, ks, ys, ex, hqx, hqy, q⟩ := q1
  subst ex
  cases r1 with
  | cons r rr =>
    cases rr with
    | cons r' rr =>
      cases rr
      cases r
      cases r'
      obtain ⟨its, rv, p1, z1⟩ := I1.list hqx
      obtain ⟨its2, rv2, p2, z2⟩ := I1.list hqy
      have la : a < s1.heap.objs.size := p1.lt
      have lb : b < s1.heap.objs.size := p2.lt
      refine call_zip_2 p1.isList p2.isList fun h' hz hTI hTO h1 h2 hsz hk => ?_
      refine Calls.spliced_nil ?_
      have e1 : its.length = ks.length := by rw [← Paired.length rv, List.length_map]
      have e2 : its2.length = ys.length := (Paired.length rv2).symm
      have S := zip_sep s1.heap.objs.size a b la lb
      have hh : X.A.in1.in1.in1.handled = none := I1.ok.hd hc
      have d1 := Draws.list (prog := X.prog) (w := X.w) hh s1.heap.objs.size a (Nat.ne_of_lt la) its.toArray
      have d2 := Draws.list (prog := X.prog) (w := X.w) hh (s1.heap.objs.size + 1) b (Nat.ne_of_lt (Nat.lt_succ_of_lt lb)) its2.toArray
      refine zl_call (n := min its.length its2.length) S d1 d2 ?_
        ⟨hz, hTI, ⟨_, _, hTO⟩, ⟨h1, p1.isList.at fun o e => hk _ o e⟩, ⟨h2, p2.isList.at fun o e => hk _ o e⟩⟩ (by rw [List.size_toArray]; exact Nat.min_le_left ..) (by rw [List.size_toArray]; exact Nat.min_le_right ..) (by simp only [List.size_toArray]; omega) (by have := z2; omega) fun h2 tk acc c as hk2 hS hl hG hacc => ?_
      · refine ⟨by show _ < h'.objs.size; omega, by show _ < h'.objs.size; omega, by show _ < h'.objs.size; omega, fun x hx => ?_, fun x hx => ?_⟩
        all_goals
          simp only [List.mem_cons, List.not_mem_nil, or_false] at hx
          show x < h'.objs.size
          rw [hsz]
          rcases hx with rfl | rfl
          · first | exact Nat.lt_add_of_pos_right (by decide) | exact Nat.add_lt_add_left (by decide) _
          · first | exact Nat.lt_of_lt_of_le la (Nat.le_add_right _ _) | exact Nat.lt_of_lt_of_le lb (Nat.le_add_right _ _)
      · have hk3 : ∀ b o, s1.heap.get? b = some o → h2.get? b = some o := fun x o e => by
          have lx := Heap.lt_size e
          exact hk2 x o (Nat.ne_of_lt (Nat.lt_of_lt_of_le lx (Nat.le_add_right _ _))) (Nat.ne_of_lt (Nat.lt_of_lt_of_le lx (Nat.le_add_right _ _))) (Nat.ne_of_lt lx) (Nat.ne_of_lt (Nat.lt_of_lt_of_le lx (Nat.le_add_right _ _))) (hk x o e)
        have kv := kv_zip (ks := ks) rv2
        obtain ⟨H', k1, k2, k3, k4, k5, k6, J⟩ := zl_laid (tk := tk) I1 (S := h'.objs.size) (by omega) (by rw [List.length_zip]; omega) kv hk3 hS (by rw [hl, List.length_zip, List.length_map, e1])
          ⟨hG.rise, hG.above, fun j x hj => by
            obtain ⟨u, v, ⟨f1, f2⟩, f3⟩ := hG.pairs j x hj
            refine ⟨u, v, ?_, f3⟩
            have f1' : its[j]? = some u := by simpa using f1
            have f2' : its2[j]? = some v := by simpa using f2
            obtain ⟨w, g1, g2⟩ := paired_getR rv f1'
            rw [List.getElem?_map] at g1
            cases hkj : ks[j]? with
            | none => rw [hkj] at g1; cases g1
            | some k =>
              rw [hkj] at g1
              have g1' : V.str k = w := Option.some.inj g1
              subst g1'
              exact ⟨.inr k, get_zip (by rw [List.getElem?_map, hkj]; rfl) f2', val_str g2⟩⟩ hacc
        exact ⟨.ref _, H', J, rfl, q H' _ as k1 k2 k3 k4 k5 k6⟩
end
theorem w_lzip {K : PySem.W.Frag} {ta : TA} {σ : L2.St} {H : Hp} {Q : VK} (h : ta σ H fun us H1 => ∃ (a b : Addr) (ks : List Str) (ys : List V), us = [.ref a, .ref b] ∧ SqL K H1 a (ks.map V.str) ∧ SqL K H1 b ys ∧
  ∀ (H' : Hp) (p : Addr) (ts : List Addr), Same H1 H' → H1 p = none → (∀ t ∈ ts, H1 t = none) → p ∉ ts → H' p = some (.lst (ts.map V.ref)) → Paired (fun (t : Addr) (q : Key × V) => H' t = some (.tup [kV q.1, q.2])) ts ((ks.map Sum.inr).zip ys) → Q (.ref p) H') : tListZip K ta σ H Q := h
section
variable {X : Cx} {e e2 : Expr} {ta : TA} {p p2 cpos pos : Pos} {K : PySem.W.Frag}
theorem pe_listZipK (hc : X.calm = true) (hm : X.mg "list" = none) (hm2 : X.mg "zip" = none) (ha : PA X [e, e2] ta) (hg : Gl X "list" := by rfl) (hg2 : Gl X "zip" := by rfl)
    (hs2 : starEach [e, e2] X.env = (false, eval e X.env) :: starEach [e2] X.env := by rfl) (hpl : (backTo cpos (starEach [e2] X.env)).any (·.1) = false := by rfl)
    (hs : starEach [.Call (.Name "zip" p2) [e, e2] [] cpos] X.env = (false, eval (.Call (.Name "zip" p2) [e, e2] [] cpos) X.env) :: starEach [] X.env := by rfl) (hK : X.K = K := by rfl) :
    PE X (.Call (.Name "list" p) [.Call (.Name "zip" p2) [e, e2] [] cpos] [] pos) (tListZip K ta) := by subst hK; exact pe_listZip hc hm hm2 ha hg hg2 hs2 hpl hs
end
/-! ### a text and a list -/
abbrev zsH1 (h : Heap) (x : Str) (t : Tok) : Heap := h.push { cls := .type (strIterType x), data := .fields #[.str x t, .int 0 0] }
abbrev zsH2 (h : Heap) (x : Str) (t : Tok) (l : Addr) : Heap := (zsH1 h x t).push { cls := .type "list_iterator", data := .fields #[.ref l, .int 0 0] }
abbrev zsH3 (h : Heap) (x : Str) (t : Tok) (l : Addr) : Heap := (zsH2 h x t l).push { cls := .type "tuple", data := .seq #[.ref h.objs.size, .ref (zsH1 h x t).objs.size] }
abbrev zsH4 (h : Heap) (x : Str) (t : Tok) (l : Addr) : Heap := (zsH3 h x t l).push { cls := .type "tuple", data := .seq #[.none, .none] }
abbrev zsH5 (h : Heap) (x : Str) (t : Tok) (l : Addr) : Heap := (zsH4 h x t l).push { cls := .type "zip", data := .fields #[.none, .bool false, .bool false, .ref (zsH2 h x t l).objs.size, .ref (zsH3 h x t l).objs.size] }
theorem meets_zip_txt (x : Str) (t : Tok) (l : Addr) (ys : Array Value) :
    Meets (Builtin.«zip.__new__» ⟨[.type "zip", .str x t, .ref l], []⟩) (fun _ R s => s.heap.IsList l ys ∧
      R (.ok (.ret (.ref (zsH4 s.heap x t l).objs.size))) { s with heap := zsH5 s.heap x t l }) :=
  .of_wp fun prog w A R s h => by
    obtain ⟨hp, g, d, tk, os⟩ := s
    obtain ⟨hl, h⟩ := h
    have hsub := sub_zip
    have hL2 : Heap.IsList (Shared.heap ⟨hp.push { cls := .type (strIterType x), data := .fields #[.str x t, .int 0 0] }, g, d, tk, os⟩) l ys := Heap.IsList.push hl _
    wp_walk using wpAny_pyIter_strU (x := x) (t := t), wpAny_pyIter_list hL2
    exact ⟨_, rfl, h⟩
section
variable {prog : Program} {w : World} {A : Around} {E : Value → Shared → Prop} {s : Shared}
theorem call_zip_txt {x : Str} {t : Tok} {l : Addr} {ys : Array Value} {Q : Value → Shared → Prop} (hl : s.heap.IsList l ys)
    (k : ∀ h', IsZip h' (s.heap.objs.size + 4) (s.heap.objs.size + 2) (s.heap.objs.size + 3) .none → IsPair h' (s.heap.objs.size + 2) (.ref s.heap.objs.size) (.ref (s.heap.objs.size + 1)) →
      IsPair h' (s.heap.objs.size + 3) .none .none → h'.IsStrIter s.heap.objs.size (strIterType x) x t 0 → h'.IsListIter (s.heap.objs.size + 1) l 0 → h'.objs.size = s.heap.objs.size + 5 →
      (∀ c o, s.heap.get? c = some o → h'.get? c = some o) → Q (.ref (s.heap.objs.size + 4)) { s with heap := h' }) :
    wpAny (model prog w) A (call (.type "zip") [.str x t, .ref l]) Q E s := by
  refine callType_new F.called_zip (by decide) (F.typeCall_zip_2 _ _) (F.newCall_zip_2 _ _) (fun obj => F.args_object_init_3 obj _ _) F.entry_zip_new
    (meets_zip_txt x t l ys) ⟨hl, ?_⟩
  have sz1 : (zsH1 s.heap x t).objs.size = s.heap.objs.size + 1 := Heap.size_push ..
  have sz2 : (zsH2 s.heap x t l).objs.size = s.heap.objs.size + 2 := by rw [Heap.size_push, sz1]
  have sz3 : (zsH3 s.heap x t l).objs.size = s.heap.objs.size + 3 := by rw [Heap.size_push, sz2]
  have sz4 : (zsH4 s.heap x t l).objs.size = s.heap.objs.size + 4 := by rw [Heap.size_push, sz3]
  have sz5 : (zsH5 s.heap x t l).objs.size = s.heap.objs.size + 5 := by rw [Heap.size_push, sz4]
  have at5 : (zsH5 s.heap x t l).get? (zsH4 s.heap x t l).objs.size = some _ := Heap.get?_push_size _ rfl
  have at4 : (zsH5 s.heap x t l).get? (zsH3 s.heap x t l).objs.size = some _ := Heap.get?_push_of_some _ (Heap.get?_push_size _ rfl)
  have at3 : (zsH5 s.heap x t l).get? (zsH2 s.heap x t l).objs.size = some _ := Heap.get?_push_of_some _ (Heap.get?_push_of_some _ (Heap.get?_push_size _ rfl))
  have at2 : (zsH5 s.heap x t l).get? (zsH1 s.heap x t).objs.size = some _ := Heap.get?_push_of_some _ (Heap.get?_push_of_some _ (Heap.get?_push_of_some _ (Heap.get?_push_size _ rfl)))
  have at1 : (zsH5 s.heap x t l).get? s.heap.objs.size = some _ := Heap.get?_push_of_some _ (Heap.get?_push_of_some _ (Heap.get?_push_of_some _ (Heap.get?_push_of_some _ (Heap.get?_push_size _ rfl))))
  change _ ∧ _
  rw [sz2, sz3, sz4] at at5
  rw [sz1, sz2] at at3
  rw [sz3] at at4
  rw [sz1] at at2
  rw [sz4]
  exact ⟨⟨_, at5, rfl⟩, k _ at5 at3 at4 ⟨_, at1, rfl, rfl⟩ ⟨_, at2, rfl, rfl⟩ sz5 fun c o z =>
    Heap.get?_push_of_some _ (Heap.get?_push_of_some _ (Heap.get?_push_of_some _ (Heap.get?_push_of_some _ (Heap.get?_push_of_some _ z))))⟩
end
theorem zip_sepS (I l2 : Nat) (h2 : l2 < I) : ZipSep2 (I + 4) (I + 2) (I + 3) I (I + 1) [I] [I + 1, l2] := by
  have m4 : I + 4 ≠ l2 := Nat.ne_of_gt (Nat.lt_of_lt_of_le h2 (Nat.le_add_right _ _))
  have m3 : I + 3 ≠ l2 := Nat.ne_of_gt (Nat.lt_of_lt_of_le h2 (Nat.le_add_right _ _))
  have n0 : I ≠ l2 := Nat.ne_of_gt h2
  constructor <;> simp [m4, m3, n0]
/-- list(zip(a, b)), a one text: its signs are the first items -/
def tListZipS (K : PySem.W.Frag) (ta : TA) : TE := fun σ H Q => ta σ H fun us H1 => ∃ (x : Str) (b : Addr) (ys : List V), us = [.str x, .ref b] ∧ SqL K H1 b ys ∧ x.length ≤ sizeLine ∧
  ∀ (H' : Hp) (p : Addr) (ts : List Addr), Same H1 H' → H1 p = none → (∀ t ∈ ts, H1 t = none) → p ∉ ts → H' p = some (.lst (ts.map V.ref)) → Paired (fun (t : Addr) (q : Key × V) => H' t = some (.tup [kV q.1, q.2])) ts (((x.cps.toList.map fun c => (⟨#[c]⟩ : Str)).map Sum.inr).zip ys) → Q (.ref p) H'
section
variable {X : Cx} {e e2 : Expr} {ta : TA} {p p2 cpos pos : Pos}
theorem pe_listZipS (hc : X.calm = true) (hm : X.mg "list" = none) (hm2 : X.mg "zip" = none) (ha : PA X [e, e2] ta) (hg : Gl X "list" := by rfl) (hg2 : Gl X "zip" := by rfl)
    (hs2 : starEach [e, e2] X.env = (false, eval e X.env) :: starEach [e2] X.env := by rfl) (hpl : (backTo cpos (starEach [e2] X.env)).any (·.1) = false := by rfl)
    (hs : starEach [.Call (.Name "zip" p2) [e, e2] [] cpos] X.env = (false, eval (.Call (.Name "zip" p2) [e, e2] [] cpos) X.env) :: starEach [] X.env := by rfl) :
    PE X (.Call (.Name "list" p) [.Call (.Name "zip" p2) [e, e2] [] cpos] [] pos) (tListZipS X.K ta) := by
  refine ⟨fun pins s σ H Q I hq => ?_⟩
  refine wpAny_Call_Name_kw (ld_blt I hg hm boot_list' ?_)
  refine PyProof.Rows.callWith_type1 ?_ hs rfl
  rw [hs]
  refine Calls.spliced_cons (wpAny_Call_Name_kw (ld_blt I hg2 hm2 PyProof.Rows.boot_zip (PyProof.Rows.callWith_type1 (thn (ha.run cpos pins s σ H _ I hq) fun us s1 ⟨vs, H1, I1, r1, q1⟩ => ?_) hs2 hpl)))
  obtain ⟨x, b, ys, ex, hqy, hx, q⟩ := q1
  subst ex
  cases r1 with
  | cons r rr =>
    cases rr with
    | cons r' rr =>
      cases rr
      obtain ⟨tk0, rfl⟩ := r
      cases r'
      obtain ⟨its2, rv2, p2, z2⟩ := I1.list hqy
      have lb : b < s1.heap.objs.size := p2.lt
      refine call_zip_txt p2.isList fun h' hz hTI hTO h1 h2 hsz hk => ?_
      refine Calls.spliced_nil ?_
      have e2 : its2.length = ys.length := (Paired.length rv2).symm
      have S := zip_sepS s1.heap.objs.size b lb
      have hh : X.A.in1.in1.in1.handled = none := I1.ok.hd hc
      have d1 := Draws.text (prog := X.prog) (w := X.w) hh s1.heap.objs.size x tk0
      have d2 := Draws.list (prog := X.prog) (w := X.w) hh (s1.heap.objs.size + 1) b (Nat.ne_of_lt (Nat.lt_succ_of_lt lb)) its2.toArray
      have xl : x.cps.size ≤ sizeLine := hx
      refine zl_call (n := min x.cps.size its2.length) S d1 d2 ?_
        ⟨hz, hTI, ⟨_, _, hTO⟩, h1, ⟨h2, p2.isList.at fun o e => hk _ o e⟩⟩ (Nat.min_le_left ..) (by rw [List.size_toArray]; exact Nat.min_le_right ..) (by simp only [List.size_toArray]; omega) (by omega) fun h2 tk acc c as hk2 hS hl hG hacc => ?_
      · refine ⟨by show _ < h'.objs.size; omega, by show _ < h'.objs.size; omega, by show _ < h'.objs.size; omega, fun x hx => ?_, fun x hx => ?_⟩
        all_goals
          simp only [List.mem_cons, List.not_mem_nil, or_false] at hx
          show x < h'.objs.size
          rw [hsz]
        · rw [hx]; exact Nat.lt_add_of_pos_right (by decide)
        · rcases hx with rfl | rfl
          · exact Nat.add_lt_add_left (by decide) _
          · exact Nat.lt_of_lt_of_le lb (Nat.le_add_right _ _)
      · have hk3 : ∀ b o, s1.heap.get? b = some o → h2.get? b = some o := fun x o e => by
          have lx := Heap.lt_size e
          exact hk2 x o (Nat.ne_of_lt (Nat.lt_of_lt_of_le lx (Nat.le_add_right _ _))) (Nat.ne_of_lt (Nat.lt_of_lt_of_le lx (Nat.le_add_right _ _))) (Nat.ne_of_lt lx) (Nat.ne_of_lt (Nat.lt_of_lt_of_le lx (Nat.le_add_right _ _))) (hk x o e)
        have lk : (x.cps.toList.map fun c => (⟨#[c]⟩ : Str)).length = x.cps.size := by rw [List.length_map]; rfl
        have kv := kv_zip (ks := x.cps.toList.map fun c => (⟨#[c]⟩ : Str)) rv2
        obtain ⟨H', k1, k2, k3, k4, k5, k6, J⟩ := zl_laid (tk := tk) I1 (S := h'.objs.size) (by omega) (by rw [List.length_zip]; omega) kv hk3 hS (by rw [hl, List.length_zip, List.length_map, lk])
          ⟨hG.rise, hG.above, fun j y hj => by
            obtain ⟨u, v, ⟨⟨c, tu, f1, fu⟩, f2⟩, f3⟩ := hG.pairs j y hj
            refine ⟨u, v, ?_, f3⟩
            have f1' : x.cps.toList[j]? = some c := by simpa using f1
            have f2' : its2[j]? = some v := by simpa using f2
            exact ⟨.inr ⟨#[c]⟩, get_zip (by rw [List.getElem?_map, List.getElem?_map, f1']; rfl) f2', val_str ⟨tu, fu⟩⟩⟩ hacc
        exact ⟨.ref _, H', J, rfl, q H' _ as k1 k2 k3 k4 k5 k6⟩
variable {K : PySem.W.Frag}
theorem pe_listZipSK (hc : X.calm = true) (hm : X.mg "list" = none) (hm2 : X.mg "zip" = none) (ha : PA X [e, e2] ta) (hg : Gl X "list" := by rfl) (hg2 : Gl X "zip" := by rfl)
    (hs2 : starEach [e, e2] X.env = (false, eval e X.env) :: starEach [e2] X.env := by rfl) (hpl : (backTo cpos (starEach [e2] X.env)).any (·.1) = false := by rfl)
    (hs : starEach [.Call (.Name "zip" p2) [e, e2] [] cpos] X.env = (false, eval (.Call (.Name "zip" p2) [e, e2] [] cpos) X.env) :: starEach [] X.env := by rfl) (hK : X.K = K := by rfl) :
    PE X (.Call (.Name "list" p) [.Call (.Name "zip" p2) [e, e2] [] cpos] [] pos) (tListZipS K ta) := by subst hK; exact pe_listZipS hc hm hm2 ha hg hg2 hs2 hpl hs
end
theorem w_lzipS {K : PySem.W.Frag} {ta : TA} {σ : L2.St} {H : Hp} {Q : VK} (h : ta σ H fun us H1 => ∃ (x : Str) (b : Addr) (ys : List V), us = [.str x, .ref b] ∧ SqL K H1 b ys ∧ x.length ≤ sizeLine ∧
  ∀ (H' : Hp) (p : Addr) (ts : List Addr), Same H1 H' → H1 p = none → (∀ t ∈ ts, H1 t = none) → p ∉ ts → H' p = some (.lst (ts.map V.ref)) → Paired (fun (t : Addr) (q : Key × V) => H' t = some (.tup [kV q.1, q.2])) ts (((x.cps.toList.map fun c => (⟨#[c]⟩ : Str)).map Sum.inr).zip ys) → Q (.ref p) H') : tListZipS K ta σ H Q := h

/-! Ke: an exception that is caught and kept; what is raised told at the caller's slots. -/
/-- an exception object, known from then on -/
def exO (cls : Value) (d : Option Addr) (a : Addr) : HO := .ext fun h => ∃ (oe : Obj) (vs : Array Value), h.get? a = some oe ∧ Zc cls d oe ∧ oe.data = .fields vs
section
variable {X : Cx} {pins : List (Addr × Obj)} {σ : L2.St} {H : Hp} {s : Shared} {a : Addr} {oe : Obj} {cls : Value} {d : Option Addr} {vs : Array Value}
theorem adopt (I : Inv X ((a, oe) :: pins) σ H s) (n0 : X.s_0.heap.get? a = none) (np : ∀ p ∈ X.pn ++ pins, p.1 ≠ a) (z : Zc cls d oe) (hd : oe.data = .fields vs) : Inv X pins σ (upd H a (exO cls d a)) s := by
  obtain ⟨ga, na, nl, nf, nc⟩ := I.pin (a, oe) (List.mem_append_right _ List.mem_cons_self)
  have ne : ∀ {b : Addr} {o : HO}, H b = some o → b ≠ a := fun e => ne_of_none e na
  refine ⟨I.ok, I.os, I.bare, ⟨I.base.keep, I.base.slot, fun b o e n hx => ?_, I.base.there, fun b xs e => ?_, fun b o u e => ?_, fun b ps e => ?_⟩, I.loc, I.cell, ?_, fun x c e => ?_, fun p hp => ?_, fun b u e => ?_, I.len⟩
  · rw [upd_ne (fun q => by rw [q, n0] at e; cases e)]
    exact I.base.free b o e n hx
  · have q := I.base.tups b xs e
    rw [upd_ne (ne q)]; exact q
  · have q := I.base.frzs b o u e
    rw [upd_ne (ne q)]; exact q
  · obtain ⟨more, q⟩ := I.base.tbls b ps e
    exact ⟨more, by rw [upd_ne (ne q)]; exact q⟩
  · rw [upd_ne (Ne.symm nl)]; exact I.free
  · have nca : c ≠ a := fun q => by
      obtain ⟨v, o, ho, hv⟩ := I.cell x c e
      rw [q] at ho
      rw [show s.heap.get? a = some oe from ga] at ho
      cases ho
      exact nc v hv
    rw [upd_ne nca]; exact I.freeC x c e
  · obtain ⟨q1, q2, q3⟩ := I.pin p (by
      rcases List.mem_append.mp hp with h | h
      · exact List.mem_append_left _ h
      · exact List.mem_append_right _ (List.mem_cons_of_mem _ h))
    exact ⟨q1, by rw [upd_ne (np p hp)]; exact q2, q3⟩
  · by_cases hb : b = a
    · rw [hb, upd_same] at e
      cases e
      rw [hb]
      exact ⟨⟨oe, vs, ga, z, hd⟩, ⟨oe, ga⟩, fun _ _ ⟨o, v, q, r⟩ k => ⟨o, v, k o q, r⟩⟩
    · rw [upd_ne hb] at e
      exact (I.hok b u e).stay (fun _ _ _ y => y) (fun c q => by rw [upd_ne (ne q)]; exact q) fun c xs q => by rw [upd_ne (ne q)]; exact q
end
/-- what 'except x as n' wishes, the caught object known behind the suite; slot i is n's -/
def wHeld (K : PySem.W.Frag) (c : Value) (i : Nat) (ts : Addr → Value → Option Addr → TS) (Wout : WX) (D : Ends) : WX := fun cls d σ H =>
  ∃ b, PySem.W.exmOne K cls c = some b ∧ (b = true → ∀ a, H a = none → ts a cls d { nx := fun σ' H' => D.nx (σ'.set i none) (upd H' a (exO cls d a)), rt := fun _ _ => False, bk := fun _ _ => False, ct := fun _ _ => False } (σ.set i (some (.ref a))) H) ∧ (b = false → Wout cls d σ H)
section
variable {X : Cx} {x n : Str} {c : Value} {i : Nat} {body suite : List Stmt} {st0 : Stmt} {np pos pos' : Pos} {tb : WX → TS} {ts : Addr → Value → Option Addr → TS} {Wout : WX}
theorem ps_try_held (hst : X.stack = X.env :: X.outer) (hloc : X.env.frame = some X.env.locals) (hex : X.ex = []) (nd : X.N.Nodup) (at_i : X.N[i]? = some n) (kd : X.env.kindOf n = some .local) (nm : Names X x c) (tk : Takes X Wout)
    (hbody : ∀ (W : WX) (pn : List (Addr × Obj)) (xe : Value → Shared → Prop), Takes (X.tr pn xe) W → PassesOwn (model X.prog X.w) X.A X.env xe → PSs (X.tr pn xe) body (tb W))
    (hsuite : ∀ (a : Addr) (oe : Obj) (cls : Value) (d : Option Addr) (pn : List (Addr × Obj)), Zc cls d oe → (∃ vs, oe.data = .fields vs) → PSs (X.suite a ((a, oe) :: pn)) (st0 :: suite) (ts a cls d)) :
    PS X (.Try body [.ExceptHandler (some (.Name x np)) (some n) (st0 :: suite) pos'] [] [] pos) (fun D σ H => tb (wHeld X.K c i ts Wout D) D σ H) := by
  refine ⟨fun pins s σ H D I0 rd => ?_⟩
  have okX := I0.ok
  have frA : X.A.frames = some (X.env :: X.outer) := by rw [okX.frames, hst]
  have locn : Loc X.env.scope n := .inl kd
  refine wpAny_Try_except ?_
  have run := (hbody (wHeld X.K c i ts Wout D) (X.pn ++ pins) (fun e t1 => wpAny (model X.prog X.w) X.A (noteFrame e X.env) (fun _ t2 => wpAny (model X.prog X.w) X.A (setFlight e none) (fun _ t3 =>
    wpAny (model X.prog X.w) X.A (handleBy e X.env [.ExceptHandler (some (.Name x np)) (some n) (st0 :: suite) pos']) (SP X pins D) X.xe t3) X.xe t2) X.xe t1) (fun u t flying => ?_) PassesOwn.looking).run [] s σ H D (I0.toTry _) rd
  · refine wpAny_mono run (fun f t hsp => ?_) (fun e t he => he)
    cases f with
    | ret u =>
      obtain ⟨v, τ, G, J, r, q⟩ := hsp
      exact ⟨v, τ, G, J.ofTry okX, r, q⟩
    | next =>
      obtain ⟨τ, G, J, q⟩ := hsp
      exact wpAny_execs_nil ⟨τ, G, J.ofTry okX, q⟩
    | cont =>
      obtain ⟨τ, G, J, q⟩ := hsp
      exact ⟨τ, G, J.ofTry okX, q⟩
    | brk =>
      obtain ⟨τ, G, J, q⟩ := hsp
      exact ⟨τ, G, J.ofTry okX, q⟩
  · obtain ⟨a, gr, tI, ps', τ, G, cls, d, rfl, Jt, ground, ups, sky, freshA, eos, abr, b, yesno, hyes, hno⟩ := flying
    have JI : Inv X pins τ G tI := Jt.ofTry okX
    have skyX : Sky gr (X.env :: X.outer) a (Zc cls d) X.env.locals t.heap := by rw [← hst]; exact sky
    show wpAny _ _ (noteFrame (.ref a) X.env) _ _ _
    refine Sky.land Zc.steady frA hloc skyX fun hp1 fly1 up1 => ?_
    have J1 : Inv X pins τ G { t with heap := hp1 } := JI.landed ground fly1.1 (ups.trans up1) eos abr
    obtain ⟨o1, w1, get1, zc1, dat1⟩ := fly1.there
    have notFrame : a ∉ frs (X.env :: X.outer) := fun hm => by
      obtain ⟨_, o', e', hnf⟩ := fly1.2.2.1.mem hm
      rw [get1] at e'; cases e'
      exact hnf _ dat1
    have notLoc : a ≠ X.env.locals := fun z => notFrame (List.mem_filterMap.mpr ⟨X.env, List.mem_cons_self, by rw [hloc, z]⟩)
    have notFs : a ∉ X.fs := fun hm => by
      obtain ⟨e, he, q⟩ := List.mem_filterMap.mp hm
      exact notFrame (List.mem_filterMap.mpr ⟨e, List.mem_cons_of_mem _ he, q⟩)
    have notI : tI.heap.get? a = none := by
      cases e : tI.heap.get? a with
      | none => rfl
      | some o =>
        have q := ground a o e (by rw [hst]; exact notFrame)
        rw [fly1.2.1] at q
        cases q
    have not0 : X.s_0.heap.get? a = none := by
      cases e : X.s_0.heap.get? a with
      | none => rfl
      | some o =>
        obtain ⟨o', q⟩ := JI.base.there a o e (by rw [hex]; exact fun z => nomatch z)
        rw [notI] at q
        cases q
    have notPin : ∀ p ∈ X.pn ++ pins, p.1 ≠ a := fun p hp z => by
      have q := (JI.pin p hp).1
      rw [z, notI] at q
      cases q
    have S1 := J1.suite get1 dat1 freshA notLoc notFs
    refine wpAny_handleBy_cons (codeAny_handlers_test ?_) (by intro q; cases q)
    have looksT : PySem.W.Looks (model X.prog X.w) hp1 (typeOf (.ref a)) cls := fun A Q E s k q => wpAny_typeOf_ref (k _ _ get1) (by rw [zc1.1]; exact q)
    have looksM := PySem.W.exm_one (M := model X.prog X.w) (J1.kIn) looksT yesno
    have named : ∀ {Q : Value → Shared → Prop} {E : Value → Shared → Prop}, Q c { t with heap := hp1 } → wpAny (model X.prog X.w) (X.A.mark (some (.ref a))) (eval (.Name x np) X.env) Q E { t with heap := hp1 } := fun {Q E} q => by
      obtain ⟨hg, hdbg, hm | ⟨hm, hv, hnn⟩⟩ := nm
      · exact ld_glob (X := X.suite a ((a, o1) :: (X.pn ++ pins))) S1 hg hm q hdbg
      · exact ld_blt (X := X.suite a ((a, o1) :: (X.pn ++ pins))) S1 hg hm hv q hnn hdbg
    refine named (looksM.here ?_)
    cases b with
    | false =>
      change wpAny _ X.A (handleBy (.ref a) X.env []) _ _ _
      refine wpAny_handleBy_nil ?_
      obtain ⟨k1, k2, k3, o2, w2, T, oT, ts', get2, zc2, dat2, h1, hr⟩ := id fly1
      unfold PySem.passOn
      refine wpAny_bind (wpAny_field get2 dat2 h1 ?_)
      rw [if_neg (show ¬ ((Value.ref T == Value.none) = true) from by simp)]
      have fin : wpAny (model X.prog X.w) X.A (setFlight (.ref a) X.env.frame) (fun _ t4 => wpAny (model X.prog X.w) X.A (throw (.ref a) : Sem Flow) (SP X pins D) X.xe t4) X.xe { t with heap := hp1 } := by
        rw [hloc]
        refine HandSPX.setFlight_upZ fly1 fun hp2 held up2 => wpAny_throw (tk _ _ ?_)
        exact ⟨a, gr, tI, pins, τ, G, cls, d, rfl, JI, ground, (ups.trans up1).trans up2, .inr (.inr (by rw [hst]; exact held)), freshA, eos, abr, hno rfl⟩
      first
        | exact wpAny_bind (wpAny_pure (wpAny_bind fin))
        | exact wpAny_bind fin
    | true =>
      refine codeAny_handlers_suite_as ?_
      refine HandSPX.lands_againZ fly1 fun hp2 fly2 up2 => ?_
      have J2 : Inv X pins τ G { t with heap := hp2 } := JI.landed ground fly2.1 ((ups.trans up1).trans up2) eos abr
      obtain ⟨o2, w2, get2, zc2, dat2⟩ := fly2.there
      have S2 := J2.suite get2 dat2 freshA notLoc notFs
      refine store_ok (X := X.suite a ((a, o2) :: (X.pn ++ pins))) (v := .ref a) S2 nd at_i locn rfl (fun t5 S5 => ?_) (.inr kd)
      refine wpAny_mono ((hsuite a o2 cls d (X.pn ++ pins) zc2 ⟨_, dat2⟩).run [] t5 _ G _ S5 (hyes rfl a freshA)) (fun f t6 hsp => ?_) (fun _ _ z => False.elim z)
      cases f with
      | next =>
        obtain ⟨τ6, G6, S6, q6⟩ := hsp
        have U : Inv X ((a, o2) :: pins) τ6 G6 t6 := ⟨okX, S6.os, S6.bare, S6.base, S6.loc, S6.cell, S6.free, S6.freeC, fun p hp => S6.pin p (by
          rw [List.append_nil]
          rcases List.mem_append.mp hp with h | h
          · exact List.mem_cons_of_mem _ (List.mem_append_left _ h)
          · rcases List.mem_cons.mp h with rfl | h
            · exact List.mem_cons_self
            · exact List.mem_cons_of_mem _ (List.mem_append_right _ h)), S6.hok, S6.len⟩
        exact gone_ok U nd at_i kd fun t7 J7 => ⟨_, _, adopt J7 not0 notPin zc2 dat2, q6⟩
      | brk =>
        obtain ⟨_, _, _, z⟩ := hsp
        exact z.elim
      | cont =>
        obtain ⟨_, _, _, z⟩ := hsp
        exact z.elim
      | ret u =>
        obtain ⟨_, _, _, _, _, z⟩ := hsp
        exact z.elim
end

/-! Kf: calls whose errors are told at the caller's slots; isinstance of a kept error; repr of any plain value. -/
section
variable {X : Cx} {k : Nat} {f C : Addr} {fd : FuncData} {ps : List Str} {sp : Sp} {dvs : List V} {ds : List Value} {E : L2.St → XK} {x m : Str} {p pos apos : Pos} {e o : Expr} {es : List Expr} {t : TA} {ta : TE}
theorem pe_callDS (D : DefOk X.prog X.w X.K X.mg X.base k x ps sp) (hr : Room k X.A) (hx : ∀ σ, PassesAt (L2.CX X.prog X.w) X σ (E σ)) (ha : PA X (e :: es) t) (hg : Gl X x := by rfl) (hdb : (x == ("__debug__" : Str)) = false := by decide)
    (he : starEach (e :: es) X.env = (false, eval e X.env) :: starEach es X.env := by rfl) (hpl : (backTo pos (starEach es X.env)).any (·.1) = false := by rfl) : PE X (.Call (.Name x p) (e :: es) [] pos) (tCallS sp E t) := by
  obtain ⟨f, fd, F, g, kp, b, _⟩ := D.ex
  exact pe_callS F hr hg g kp b hx ha hdb he hpl
/-- a new instance, what its __init__ raises told at the slots -/
def tMakeS (C : Addr) (sp : Sp) (dvs : List V) (E : L2.St → XK) (t : TA) : TE := fun σ H Q => t σ H fun vs H1 => ∀ x dx H2, H1 x = none → H1 dx = none → dx ≠ x → Same H1 H2 → H2 x = some (.ins C dx []) →
  sp (.ref x :: (vs ++ dvs)) H2 (fun v H3 => v = .non ∧ Q (.ref x) H3) (E σ)
theorem pe_makeS (M : MakeOk X.prog X.w X.K X.mg X.base k x C ps sp dvs) (hr : Room (k + 1) X.A) (hx : ∀ σ, PassesAt (L2.CX X.prog X.w) X σ (E σ)) (ha : PA X (e :: es) t) (hg : Gl X x := by rfl) (hdb : (x == ("__debug__" : Str)) = false := by decide)
    (he : starEach (e :: es) X.env = (false, eval e X.env) :: starEach es X.env := by rfl) (hpl : (backTo pos (starEach es X.env)).any (·.1) = false := by rfl) :
    PE X (.Call (.Name x p) (e :: es) [] pos) (tMakeS C sp dvs E t) := by
  obtain ⟨f, fd, ds, F, Mk', g, rd, b⟩ := M.ex
  refine ⟨fun pins s σ H Q I h => ?_⟩
  refine wpAny_Call_Name_kw (ld_glob I hg g ?_ hdb)
  refine PySem.W.callWith_K (h₀ := X.base) I.ok.mod.kin Mk'.kp (thn (ha.run pos pins s σ H _ I h) fun us s1 ⟨vs, H1, I1, r, q⟩ => ⟨I1.kIn, ?_⟩) he hpl
  have fx := I1.hok.fresh (Nat.le_succ s1.heap.objs.size)
  have fd1 := I1.hok.fresh (Nat.le_refl s1.heap.objs.size)
  have hq := q (s1.heap.objs.size + 1) s1.heap.objs.size (upd (upd H1 s1.heap.objs.size (.own (s1.heap.objs.size + 1))) (s1.heap.objs.size + 1) (.ins C s1.heap.objs.size [])) fx fd1 (Nat.ne_of_lt (Nat.lt_succ_self _)) (same_put (same_upd fd1) fx) upd_same
  have I2 := Inv.made (C := C) I1
  have rel : Vals (V.ref (s1.heap.objs.size + 1) :: (vs ++ dvs)) (Value.ref (s1.heap.objs.size + 1) :: (us ++ ds)) := .cons rfl (r.append rd)
  have len : (Value.ref (s1.heap.objs.size + 1) :: us ++ ds).length = ps.length := by
    have z := rel.length
    rw [F.len _ _ _ _ hq] at z
    exact z.symm
  refine wpAny_call (make_map (f := f) I1.kIn Mk'.makes Mk'.init (beq_iff_eq.mp Mk'.fn) (codeAny_mono (F.run _ X.stack _ _ ⟨Value.ref (s1.heap.objs.size + 1) :: us, []⟩ _ _ _ (E σ) (hr.make C us []) (I2.env0.make C us [])
    (b _ (Value.ref (s1.heap.objs.size + 1) :: us) I2.kIn len) rel hq) fun res s' out => ?_))
  cases res with
  | error z => exact hx σ pins _ _ z s' I2 out
  | ok fl =>
    cases fl with
    | ret u =>
      obtain ⟨v, H', I3, rv, ev, q3⟩ := I2.after out
      subst ev
      exact ⟨rv, ⟨V.ref (s1.heap.objs.size + 1), H', I3, rfl, q3⟩⟩
    | next => exact False.elim out
    | brk => exact False.elim out
    | cont => exact False.elim out
end
theorem w_callS {sp : Sp} {E : L2.St → XK} {t : TA} {σ : L2.St} {H : Hp} {Q : VK} (h : t σ H fun vs H1 => sp vs H1 Q (E σ)) : tCallS sp E t σ H Q := h
theorem w_makeS {C : Addr} {sp : Sp} {dvs : List V} {E : L2.St → XK} {t : TA} {σ : L2.St} {H : Hp} {Q : VK} (h : t σ H fun vs H1 => ∀ x dx H2, H1 x = none → H1 dx = none → dx ≠ x → Same H1 H2 → H2 x = some (.ins C dx []) → sp (.ref x :: (vs ++ dvs)) H2 (fun v H3 => v = .non ∧ Q (.ref x) H3) (E σ)) : tMakeS C sp dvs E t σ H Q := h
def tHeld (K : PySem.W.Frag) (c : Value) (i : Nat) (ts : Addr → Value → Option Addr → TS) (Wout : WX) (tb : WX → TS) : TS := fun D σ H => tb (wHeld K c i ts Wout D) D σ H
theorem ps_held {X : Cx} {x n : Str} {c : Value} {i : Nat} {body suite : List Stmt} {st0 : Stmt} {np pos pos' : Pos} {tb : WX → TS} {ts : Addr → Value → Option Addr → TS} {Wout : WX} {K : PySem.W.Frag} (nd : X.N.Nodup) (nm : Names X x c) (tk : Takes X Wout)
    (hbody : ∀ (W : WX) (pn : List (Addr × Obj)) (xe : Value → Shared → Prop), Takes (X.tr pn xe) W → PassesOwn (model X.prog X.w) X.A X.env xe → PSs (X.tr pn xe) body (tb W))
    (hsuite : ∀ (a : Addr) (oe : Obj) (cls : Value) (d : Option Addr) (pn : List (Addr × Obj)), Zc cls d oe → (∃ vs, oe.data = .fields vs) → PSs (X.suite a ((a, oe) :: pn)) (st0 :: suite) (ts a cls d))
    (at_i : X.N[i]? = some n := by rfl) (kd : X.env.kindOf n = some .local := by rfl) (hst : X.stack = X.env :: X.outer := by rfl) (hloc : X.env.frame = some X.env.locals := by rfl) (hex : X.ex = [] := by rfl) (hK : X.K = K := by rfl) :
    PS X (.Try body [.ExceptHandler (some (.Name x np)) (some n) (st0 :: suite) pos'] [] [] pos) (tHeld K c i ts Wout tb) := by
  subst hK
  exact ps_try_held hst hloc hex nd at_i kd nm tk hbody hsuite
theorem w_held {K : PySem.W.Frag} {c : Value} {i : Nat} {ts : Addr → Value → Option Addr → TS} {Wout : WX} {tb : WX → TS} {D : Ends} {σ : L2.St} {H : Hp} (h : tb (wHeld K c i ts Wout D) D σ H) : tHeld K c i ts Wout tb D σ H := h
/-- except x without a name -/
def tOnly (K : PySem.W.Frag) (c : Value) (ts : Addr → Value → Option Addr → TS) (Wout : WX) (tb : WX → TS) : TS := fun D σ H => tb (wOnly K c ts Wout D) D σ H
theorem ps_only {X : Cx} {x : Str} {c : Value} {body suite : List Stmt} {st0 : Stmt} {np pos pos' : Pos} {tb : WX → TS} {ts : Addr → Value → Option Addr → TS} {Wout : WX} {K : PySem.W.Frag} (nm : Names X x c) (tk : Takes X Wout)
    (hbody : ∀ (W : WX) (pn : List (Addr × Obj)) (xe : Value → Shared → Prop), Takes (X.tr pn xe) W → PassesOwn (model X.prog X.w) X.A X.env xe → PSs (X.tr pn xe) body (tb W))
    (hsuite : ∀ (a : Addr) (oe : Obj) (cls : Value) (d : Option Addr) (pn : List (Addr × Obj)), Zc cls d oe → (∃ vs, oe.data = .fields vs) → PSs (X.suite a ((a, oe) :: pn)) (st0 :: suite) (ts a cls d))
    (hst : X.stack = X.env :: X.outer := by rfl) (hloc : X.env.frame = some X.env.locals := by rfl) (hK : X.K = K := by rfl) :
    PS X (.Try body [.ExceptHandler (some (.Name x np)) none (st0 :: suite) pos'] [] [] pos) (tOnly K c ts Wout tb) := by
  subst hK
  exact ps_try_only hst hloc nm tk hbody hsuite
theorem w_only {K : PySem.W.Frag} {c : Value} {ts : Addr → Value → Option Addr → TS} {Wout : WX} {tb : WX → TS} {D : Ends} {σ : L2.St} {H : Hp} (h : tb (wOnly K c ts Wout D) D σ H) : tOnly K c ts Wout tb D σ H := h
theorem w_litems {te : TE} {σ : L2.St} {H : Hp} {Q : VK} (h : te σ H fun x H1 => LiI.rItemsL x H1 Q) : LiI.tListItems te σ H Q := h
/-! ### isinstance of a kept error -/
/-- a class of error, in except clauses and isinstance -/
structure CatF (K : PySem.W.Frag) (mg : Str → Option Value) (n : Str) (D : Addr) : Prop where
  g : mg n = some (.ref D)
  ic : PySem.W.isClsIn K D = true
  ty : PySem.W.typeIn K (.ref D) = some (.type "type")
  sb : PySem.W.subIn K (.ref D) (.type "BaseException") = some true
  dc : PySem.W.hasDictIn K D = true
theorem pe_exc {X : Cx} {x : Str} {D : Addr} {pos : Pos} (F : CatF X.K X.mg x D) (hg : Gl X x := by rfl) (hd : (x == ("__debug__" : Str)) = false := by decide) : PE X (.Name x pos) (tC (.ref D)) := pe_glob hg F.g rfl hd
theorem CatF.exm {K : PySem.W.Frag} {mg : Str → Option Value} {n : Str} {C D : Addr} {b : Bool} (F : CatF K mg n D) (s : PySem.W.subIn K (.ref C) (.ref D) = some b) : PySem.W.exmOne K (.ref C) (.ref D) = some b := PySem.W.exm_ref F.sb F.dc F.ty s
theorem CatF.kit {K : PySem.W.Frag} {mg : Str → Option Value} {n : Str} {C D : Addr} {b : Bool} (F : CatF K mg n D) (self : PySem.W.subIn K (.ref C) (.ref C) = some true) (s : PySem.W.subIn K (.ref C) (.ref D) = some b) : PySem.W.kitOne K (.ref C) (.ref D) = some b := by
  unfold PySem.W.kitOne
  by_cases e : (Value.ref C == Value.ref D) = true
  · have e' : C = D := Value.ref.inj (beq_iff_eq.mp e)
    subst e'
    rw [if_pos e]
    exact self.symm.trans s
  · rw [if_neg e]
    have ic : (PySem.W.clsIn K D).isSome = true := F.ic
    show (if ((PySem.W.clsIn K D).isSome && PySem.W.typeIn K (.ref D) == some (.type "type")) = true then PySem.W.subIn K (.ref C) (.ref D) else none) = some b
    rw [if_pos (by rw [ic, F.ty] <;> rfl)]
    exact s
theorem kit_type {K : PySem.W.Frag} {C : Addr} {T : String} {b : Bool} (m : PySem.W.kitMeta T = true) (s : PySem.W.subIn K (.ref C) (.type T) = some b) : PySem.W.kitOne K (.ref C) (.type T) = some b := by
  unfold PySem.W.kitOne
  rw [if_neg (by intro z; cases beq_iff_eq.mp z)]
  show (if PySem.W.kitMeta T = true then PySem.W.subIn K (.ref C) (.type T) else none) = some b
  rw [if_pos m]
  exact s
theorem kit_cons {K : PySem.W.Frag} {t c : Value} {r : List Value} (h1 : PySem.W.kitOne K t c = some false) (h2 : PySem.W.kitAny K t r = some false) : PySem.W.kitAny K t (c :: r) = some false := by
  show (match PySem.W.kitOne K t c with | some true => some true | some false => PySem.W.kitAny K t r | none => none) = some false
  rw [h1]
  exact h2
def rIsiE (K : PySem.W.Frag) : List V → Hp → VK → Prop := fun xs H Q => ∃ (a C : Addr) (c : V) (u : Value) (b : Bool), xs = [.ref a, c] ∧ H a = some (exO (.ref C) none a) ∧ ExcC K C ∧ ClsV c u ∧ PySem.W.kitOne K (.ref C) u = some b ∧ Q (.bl b) H
def rIsiET (K : PySem.W.Frag) : List V → Hp → VK → Prop := fun xs H Q => ∃ (a C tp : Addr) (cs : List V) (us : List Value) (b : Bool), xs = [.ref a, .ref tp] ∧ H tp = some (.tup cs) ∧ Paired ClsV cs us ∧ H a = some (exO (.ref C) none a) ∧ ExcC K C ∧ PySem.W.kitAny K (.ref C) us = some b ∧ Q (.bl b) H
section
variable {X : Cx} {K : PySem.W.Frag} {pins : List (Addr × Obj)} {σ : L2.St} {H : Hp} {s : Shared} {a C : Addr}
theorem inst_of (I : Inv X pins σ H s) (e : H a = some (exO (.ref C) none a)) : ∃ ox, PySem.W.InstAt s.heap a ox C none := by
  obtain ⟨⟨oe, vs, ga, z, hd⟩, _⟩ := (show ObjOk X.prog X.w H s.heap a (exO (.ref C) none a) from I.hok a _ e)
  refine ⟨oe, ?_⟩
  obtain ⟨oc, od, oda, osl⟩ := oe
  obtain ⟨h1, h2⟩ := z
  dsimp only at h1 h2 hd
  subst h1 h2 hd
  exact ⟨ga, rfl, rfl, trivial⟩
theorem cr_isE (hK : X.K = K := by rfl) : CallR X (.builtin "isinstance") (rIsiE K) := by
  subst hK
  intro pins s σ H xs us Q I r h
  obtain ⟨a, C, cc, u, b, rfl, e, ex, cl, kt, q⟩ := h
  obtain ⟨u1, u2, rfl, r1, r2⟩ := vals2 r
  have e2 := cl.eq r2
  subst e2
  cases (show u1 = Value.ref a from r1)
  obtain ⟨ox, J⟩ := inst_of I e
  exact PySem.W.kia_one (PySem.W.handS_kitx_exc ex.hg ex.hk ex.hs ex.hd ex.ha ex.hn ex.ht ex.hm) I.kIn J kt (fun z => nomatch z) fun tk => ⟨.bl b, H, I.tok tk, rfl, q⟩
theorem cr_isET (hK : X.K = K := by rfl) : CallR X (.builtin "isinstance") (rIsiET K) := by
  subst hK
  intro pins s σ H xs us Q I r h
  obtain ⟨a, C, tp, cs, ws, b, rfl, hT, k, e, ex, kt, q⟩ := h
  obtain ⟨u1, u2, rfl, r1, r2⟩ := vals2 r
  cases (show u2 = Value.ref tp from r2)
  cases (show u1 = Value.ref a from r1)
  obtain ⟨ox, J⟩ := inst_of I e
  obtain ⟨_, its, rv, o, h1, h2, n, h3⟩ := (show ObjOk X.prog X.w H s.heap tp (.tup cs) from I.hok tp _ hT)
  have e3 := ClsV.all k rv
  subst e3
  obtain ⟨oc, od, dt, sl⟩ := o
  simp only at h2 h3
  subst h2 h3
  exact PySem.W.kia_tup (PySem.W.handS_kitx_exc ex.hg ex.hk ex.hs ex.hd ex.ha ex.hn ex.ht ex.hm) I.kIn J h1 kt (fun z => nomatch z) fun tk => ⟨.bl b, H, I.tok tk, rfl, q⟩
end
/-! ### repr of any plain value -/
def rpF : V → Str
  | .non => "None"
  | .bl b => if b then "True" else "False"
  | .int i => toString i
  | .str x => reprText x
  | _ => ""
def fineR : V → Bool
  | .non => true
  | .bl _ => true
  | .int i => decide (i.natAbs.log2 < 1920)
  | .str x => decide ((reprText x).length ≤ sizeLine)
  | _ => false
def rReprA (K : PySem.W.Frag) : List V → Hp → VK → Prop := fun xs H Q => rRepr K xs H Q ∨ ∃ v, xs = [v] ∧ fineR v = true ∧ Q (.str (rpF v)) H
theorem cr_reprA {X : Cx} {K : PySem.W.Frag} (hg : X.A.guards = some []) (hu : X.A.units + 64 < cLine) (hK : X.K = K := by rfl) : CallR X (.builtin "repr") (rReprA K) := by
  intro pins s σ H xs us Q I r h
  rcases h with h | ⟨v, rfl, hf, q⟩
  · exact cr_repr hg hu hK pins s σ H xs us Q I r h
  · obtain ⟨u, rfl, ru⟩ := vals1 r
    cases v with
    | non =>
      cases (show u = Value.none from ru)
      exact PySem.P.repr_of_none ⟨.str _, H, I.tok _, ⟨_, rfl⟩, q⟩
    | bl b =>
      cases (show u = Value.bool b from ru)
      refine PySem.P.repr_of_bool ⟨.str _, H, I.tok _, ⟨_, rfl⟩, ?_⟩
      exact q
    | int i =>
      obtain ⟨t, rfl⟩ := ru
      exact PySem.P.repr_of_int (of_decide_eq_true hf) ⟨.str _, H, I.tok _, ⟨_, rfl⟩, q⟩
    | str x =>
      obtain ⟨t, rfl⟩ := ru
      exact PySem.P.repr_of_str ⟨.str _, H, I.tok _, ⟨_, rfl⟩, q⟩ (of_decide_eq_true hf)
    | _ => cases hf

/-! Kv: f-strings of two values with a text between; joined texts, their lengths and signs. -/
def FmtV (x : V) (y : Str) : Prop := y.length ≤ 1000000 ∧ (x = .str y ∨ ∃ i : Int, x = .int i ∧ i.natAbs.log2 < 1920 ∧ y = toString i)
def tF3 (ta : TE) (m : Str) (tb : TE) : TE := fun σ H Q => ta σ H fun x H1 => ∃ y : Str, FmtV x y ∧ tb σ H1 fun z H2 => ∃ u : Str, FmtV z u ∧ Q (.str (y ++ m ++ u)) H2
theorem empty_app (y : Str) : Str.empty ++ y = y := by
  show (⟨#[] ++ y.cps⟩ : Str) = y
  simp
theorem fmt_of {x : V} {y : Str} {R : Str → Prop} (f : FmtV x y) (h : R y) : (∃ z : Str, x = .str z ∧ z.length ≤ sizeLine ∧ R z) ∨ ∃ i : Int, x = .int i ∧ i.natAbs.log2 < 1920 ∧ R (toString i) := by
  have h2 : (sizeLine : Nat) = 16777216 := sizeLine_eq
  obtain ⟨hz, rfl | ⟨i, rfl, hl, rfl⟩⟩ := f
  · exact .inl ⟨y, rfl, by omega, h⟩
  · exact .inr ⟨i, rfl, hl, h⟩
theorem pe_fs3 {X : Cx} {e1 e2 : Expr} {t1 t2 : TE} {m : Str} {j : Nat} {p1 p2 p3 pos : Pos} (h1 : PE X e1 t1) (h2 : PE X e2 t2) (hm : m.length ≤ 1000 := by decide) : PE X (.JoinedStr [.FormattedValue e1 (-1) none p1, .Constant (.str m) j p2, .FormattedValue e2 (-1) none p3] pos) (tF3 t1 m t2) := by
  refine ⟨fun pins s σ H Q I q => (pe_joined (PJ.cons (pe_fmt (pe_mid h1)) (PJ.cons pe_str (PJ.cons (pe_fmt (pe_mid h2)) PJ.nil)))).run pins s σ H Q I ?_⟩
  have hs : (sizeLine : Nat) = 16777216 := sizeLine_eq
  have le : ∀ {a b : Str}, (a ++ b).length = a.length + b.length := fun {a b} => len_app a b
  refine ⟨_, q, fun x H1 ⟨y, fy, q1⟩ => ?_⟩
  refine fmt_of (R := fun z => ∃ y : Str, V.str z = .str y ∧ (Str.empty ++ y).length ≤ sizeLine ∧ tJs [tC (.str m), tFmt (mE t2)] (Str.empty ++ y) σ H1 fun out H1 => Q (.str out) H1) fy ?_
  have ly := fy.1
  refine ⟨y, rfl, by rw [empty_app]; omega, ?_⟩
  rw [empty_app]
  refine ⟨m, rfl, by rw [le]; omega, ?_⟩
  refine ⟨_, q1, fun z H2 ⟨u, fu, q2⟩ => ?_⟩
  refine fmt_of (R := fun w => ∃ y1 : Str, V.str w = .str y1 ∧ (y ++ m ++ y1).length ≤ sizeLine ∧ tJs [] (y ++ m ++ y1) σ H2 fun out H1 => Q (.str out) H1) fu ?_
  have lu := fu.1
  exact ⟨u, rfl, by rw [le, le]; omega, q2⟩
theorem w_fs3 {ta tb : TE} {m : Str} {σ : L2.St} {H : Hp} {Q : VK} (h : ta σ H fun x H1 => ∃ y : Str, FmtV x y ∧ tb σ H1 fun z H2 => ∃ u : Str, FmtV z u ∧ Q (.str (y ++ m ++ u)) H2) : tF3 ta m tb σ H Q := h
theorem fmt_str {y : Str} (h : y.length ≤ 1000000) : FmtV (.str y) y := ⟨h, .inl rfl⟩
theorem fmt_int {i : Int} (h : i.natAbs.log2 < 1920) (hz : (toString i : Str).length ≤ 1000000) : FmtV (.int i) (toString i) := ⟨hz, .inr ⟨i, rfl, h, rfl⟩⟩
/-! #### joined texts -/
theorem joinL_mem {S : List Nat} {c : Nat} : ∀ {ps : List (List Nat)}, c ∈ joinL S ps → c ∈ S ∨ ∃ p ∈ ps, c ∈ p
  | [], h => by cases h
  | [p], h => .inr ⟨p, List.mem_cons_self, h⟩
  | p :: q :: r, h => by
    have h' : c ∈ p ++ (S ++ joinL S (q :: r)) := h
    rcases List.mem_append.mp h' with z | z
    · exact .inr ⟨p, List.mem_cons_self, z⟩
    · rcases List.mem_append.mp z with z | z
      · exact .inl z
      · rcases joinL_mem z with w | ⟨x, hx, w⟩
        · exact .inl w
        · exact .inr ⟨x, List.mem_cons_of_mem _ hx, w⟩
theorem joinL_len {S : List Nat} {m : Nat} : ∀ {ps : List (List Nat)}, (∀ p ∈ ps, p.length ≤ m) → (joinL S ps).length ≤ ps.length * (m + S.length)
  | [], _ => Nat.zero_le _
  | [p], h => by
    have := h p List.mem_cons_self
    show p.length ≤ 1 * (m + S.length)
    omega
  | p :: q :: r, h => by
    have h1 := h p List.mem_cons_self
    have h2 := joinL_len (S := S) (ps := q :: r) fun x hx => h x (List.mem_cons_of_mem _ hx)
    show (p ++ (S ++ joinL S (q :: r))).length ≤ _
    rw [List.length_append, List.length_append, List.length_cons, Nat.succ_mul]
    omega
theorem join_ok {a : Str} {ys : List Str} (ha : PyData.strOk a = true) (h : ∀ y ∈ ys, PyData.strOk y = true) : PyData.strOk (Txt.join a ys) = true := by
  refine strOk_iff.mpr fun c hc => ?_
  have hc' : c ∈ tl (Txt.join a ys) := hc
  rw [join_eq, tl_join] at hc'
  rcases joinL_mem hc' with z | ⟨p, hp, z⟩
  · exact strOk_iff.mp ha c z
  · obtain ⟨y, hy, rfl⟩ := List.mem_map.mp hp
    exact strOk_iff.mp (h y hy) c z
theorem join_len {a : Str} {ys : List Str} {m : Nat} (h : ∀ y ∈ ys, y.length ≤ m) : (Txt.join a ys).length ≤ ys.length * (m + a.length) := by
  have e : (Txt.join a ys).length = (tl (Txt.join a ys)).length := len_tl _
  rw [e, join_eq, tl_join]
  have k := joinL_len (S := tl a) (ps := ys.map tl) (m := m) fun p hp => by
    obtain ⟨y, hy, rfl⟩ := List.mem_map.mp hp
    rw [← len_tl]; exact h y hy
  rw [List.length_map, ← len_tl] at k
  exact k
theorem sum_len {ys : List Str} {m : Nat} (h : ∀ y ∈ ys, y.length ≤ m) : (ys.map (·.length)).sum ≤ ys.length * m := by
  induction ys with
  | nil => simp
  | cons y t ih =>
    have h1 := h y List.mem_cons_self
    have h2 := ih fun z hz => h z (List.mem_cons_of_mem _ hz)
    rw [List.map_cons, List.sum_cons, List.length_cons, Nat.succ_mul]
    omega
/-- a text's repr is not too long -/
theorem repr_fits {x : Str} (hx : PyData.strOk x = true) (hl : x.length ≤ 1000000) : fineR (.str x) = true := by
  have h2 : (sizeLine : Nat) = 16777216 := sizeLine_eq
  have k := shown_wt (.str x) hx
  have e : wtD (.str x) = 10 * x.length + 2 := by simp [wtD]
  rw [e] at k
  have k' : (reprText x).length ≤ 10 * x.length + 2 := k
  exact decide_eq_true (by omega)

/-! Kdq: repr of any plain data, dicts in lists and lists in dicts as well. -/
mutual
inductive RdN (h : Heap) : Value → PyData → Prop
  | non : RdN h .none .none
  | bl (b) : RdN h (.bool b) (.bool b)
  | int (i t) : RdN h (.int i t) (.int i)
  | str (x t) : RdN h (.str x t) (.str x)
  | lst {a o vs n xs} : h.get? a = some o → o.cls = .type "list" → o.data = .seq vs n → RdNs h vs.toList xs → RdN h (.ref a) (.list xs)
  | tup {a o vs n xs} : h.get? a = some o → o.cls = .type "tuple" → o.data = .seq vs n → RdNs h vs.toList xs → RdN h (.ref a) (.tuple xs)
  | dct {a o es n kvs} : h.get? a = some o → o.cls = .type "dict" → o.data = .dict es n → (a == sysModules) = false → RdNs h (es.toList.map fun e => e.key) (kvs.map fun p => p.1) → RdNs h (es.toList.map fun e => e.val) (kvs.map fun p => p.2) → RdN h (.ref a) (.dict kvs)
inductive RdNs (h : Heap) : List Value → List PyData → Prop
  | nil : RdNs h [] []
  | cons {v vs d ds} : RdN h v d → RdNs h vs ds → RdNs h (v :: vs) (d :: ds)
end
mutual
theorem RdN.reads {h : Heap} : ∀ {v : Value} {d : PyData}, RdN h v d → ∃ as, Reads h v d as
  | _, _, .non => ⟨_, .none⟩
  | _, _, .bl b => ⟨_, .bool b⟩
  | _, _, .int i t => ⟨_, .int i t⟩
  | _, _, .str x t => ⟨_, .str x t⟩
  | _, _, .lst h1 h2 h3 h4 => by obtain ⟨as, r⟩ := h4.reads; exact ⟨_, .list h1 h2 h3 r⟩
  | _, _, .tup h1 h2 h3 h4 => by obtain ⟨as, r⟩ := h4.reads; exact ⟨_, .tuple h1 h2 h3 r⟩
  | _, _, .dct h1 h2 h3 _ h4 h5 => by
    obtain ⟨as, r⟩ := h4.reads
    obtain ⟨bs, r2⟩ := h5.reads
    exact ⟨_, .dict h1 h2 h3 r r2⟩
theorem RdNs.reads {h : Heap} : ∀ {vs : List Value} {ds : List PyData}, RdNs h vs ds → ∃ as, ReadsAll h vs ds as
  | _, _, .nil => ⟨_, .nil⟩
  | _, _, .cons x y => by
    obtain ⟨as, r⟩ := x.reads
    obtain ⟨bs, r2⟩ := y.reads
    exact ⟨_, .cons r r2⟩
end
section
variable {prog : Program} {w : World} {g : Heap}
theorem deep_list {xs : List PyData} : PyData.depthAll xs < (PyData.list xs).depth := by simp only [PyData.depth]; omega
theorem deep_tup {xs : List PyData} : PyData.depthAll xs < (PyData.tuple xs).depth := by simp only [PyData.depth]; omega
theorem deep_dict {xs : List (PyData × PyData)} : PyData.depthKv xs < (PyData.dict xs).depth := by simp only [PyData.depth]; omega
theorem len_list {xs : List PyData} (z : (PyData.list xs).shown.length ≤ sizeLine) : (listText (PyData.shownAll xs)).length ≤ sizeLine := by
  simp only [PyData.shown] at z; exact z
theorem len_tup {xs : List PyData} (z : (PyData.tuple xs).shown.length ≤ sizeLine) : (tupleText (PyData.shownAll xs)).length ≤ sizeLine := by
  simp only [PyData.shown] at z; exact z
theorem len_dict {xs : List (PyData × PyData)} (z : (PyData.dict xs).shown.length ≤ sizeLine) : (dictText (PyData.shownKv xs)).length ≤ sizeLine := by
  simp only [PyData.shown] at z; exact z
mutual
theorem RdN.rk : ∀ {v : Value} {d : PyData}, RdN g v d → d.showable = true → d.shown.length ≤ sizeLine → ∃ bs, ReadAtMost g d.depth bs ∧ ReprK prog w bs g d.depth v d.shown
  | _, _, .non, _, _ => ⟨[], fun _ z => (by cases z), by simp only [PyData.shown]; exact ReprK.of_is ReprIs.none _ _ _⟩
  | _, _, .bl b, _, _ => ⟨[], fun _ z => (by cases z), by simp only [PyData.shown]; exact ReprK.of_is (ReprIs.bool b) _ _ _⟩
  | _, _, .int i t, hs, _ => ⟨[], fun _ z => (by cases z), by
    have q : i.natAbs.log2 < 1920 := by simpa [PyData.showable] using hs
    simp only [PyData.shown]; exact ReprK.of_is (ReprIs.int t q) _ _ _⟩
  | _, _, .str x t, _, hz => ⟨[], fun _ z => (by cases z), by
    simp only [PyData.shown] at hz ⊢
    exact ReprK.of_is (ReprIs.str x t hz) _ _ _⟩
  | _, _, .lst (a := a) (vs := vs) (xs := xs) h1 h2 h3 h4, hs, hz => by
    have lz := len_list hz
    have sh : PyData.showableAll xs = true := by simpa [PyData.showable] using hs
    obtain ⟨bs, hb, hk⟩ := h4.rk sh fun t ht => Nat.le_trans (listText_mem_le ht) lz
    obtain ⟨as, rr⟩ := h4.reads
    have rd : Reads g (.ref a) (.list xs) _ := .list h1 h2 h3 rr
    have na := not_mem_of_deeper rd deep_list hb
    refine ⟨a :: bs, ReadAtMost.cons rd (Nat.le_of_lt deep_list) hb, ?_⟩
    simp only [PyData.depth, PyData.shown]
    obtain ⟨l⟩ := vs
    cases l with
    | nil =>
      cases (show RdNs g [] xs from h4)
      simp only [PyData.shownAll]
      rw [listText_nil]
      exact .listEmpty h1 h2 h3
    | cons x l =>
      have e := hk.length_eq
      exact .list h1 h2 h3 na (by simpa using e) fun i y q => hk.item i y (by simpa using q)
  | _, _, .tup (a := a) (xs := xs) h1 h2 h3 h4, hs, hz => by
    have lz := len_tup hz
    have sh : PyData.showableAll xs = true := by simpa [PyData.showable] using hs
    obtain ⟨bs, hb, hk⟩ := h4.rk sh fun t ht => Nat.le_trans (tupleText_mem_le ht) lz
    obtain ⟨as, rr⟩ := h4.reads
    have rd : Reads g (.ref a) (.tuple xs) _ := .tuple h1 h2 h3 rr
    have na := not_mem_of_deeper rd deep_tup hb
    refine ⟨a :: bs, ReadAtMost.cons rd (Nat.le_of_lt deep_tup) hb, ?_⟩
    simp only [PyData.depth, PyData.shown]
    exact .tuple h1 h2 h3 na hk
  | _, _, .dct (a := a) (es := es) (kvs := kvs) h1 h2 h3 hm h4 h5, hs, hz => by
    have lz := len_dict hz
    obtain ⟨sk, sv⟩ := PyData.showableKv_split kvs (by simpa [PyData.showable] using hs)
    obtain ⟨b1, hb1, k1⟩ := h4.rk sk fun t ht => by
      obtain ⟨p, hp, hl⟩ := PyData.shownKv_key_le kvs t ht
      exact Nat.le_trans hl (Nat.le_trans (dictText_mem_le hp) lz)
    obtain ⟨b2, hb2, k2⟩ := h5.rk sv fun t ht => by
      obtain ⟨p, hp, hl⟩ := PyData.shownKv_val_le kvs t ht
      exact Nat.le_trans hl (Nat.le_trans (dictText_mem_le hp) lz)
    obtain ⟨as, r1⟩ := h4.reads
    obtain ⟨as2, r2⟩ := h5.reads
    have rd : Reads g (.ref a) (.dict kvs) _ := .dict h1 h2 h3 r1 r2
    have both : ReadAtMost g (PyData.depthKv kvs) (b1 ++ b2) := (hb1.mono (PyData.depthAll_keys_le kvs)).append (hb2.mono (PyData.depthAll_vals_le kvs))
    have na := not_mem_of_deeper rd deep_dict both
    refine ⟨a :: (b1 ++ b2), ReadAtMost.cons rd (Nat.le_of_lt deep_dict) both, ?_⟩
    have kk := k1.more_le (fun b hb => List.mem_append_left b2 hb) (PyData.depthAll_keys_le kvs)
    have kv := k2.more_le (fun b hb => List.mem_append_right b1 hb) (PyData.depthAll_vals_le kvs)
    simp only [PyData.depth, PyData.shown, PyData.shownKv_eq]
    exact .dict h1 h2 h3 hm na (ReprEntriesK.of_two _ _ _ kk kv)
theorem RdNs.rk : ∀ {vs : List Value} {ds : List PyData}, RdNs g vs ds → PyData.showableAll ds = true → (∀ t ∈ PyData.shownAll ds, t.length ≤ sizeLine) →
    ∃ bs, ReadAtMost g (PyData.depthAll ds) bs ∧ ReprAllK prog w bs g (PyData.depthAll ds) vs (PyData.shownAll ds)
  | _, _, .nil, _, _ => ⟨[], fun _ z => (by cases z), by simp only [PyData.shownAll]; exact ReprAllK.nil⟩
  | _, _, .cons (d := d) (ds := ds) r rs, hs, hz => by
    have hs2 : d.showable = true ∧ PyData.showableAll ds = true := by simpa [PyData.showableAll] using hs
    simp only [PyData.shownAll] at hz
    obtain ⟨b1, hb1, k1⟩ := r.rk hs2.1 (hz _ List.mem_cons_self)
    obtain ⟨b2, hb2, k2⟩ := rs.rk hs2.2 fun t ht => hz t (List.mem_cons_of_mem _ ht)
    have m1 : d.depth ≤ PyData.depthAll (d :: ds) := by simp only [PyData.depthAll]; exact Nat.le_max_left _ _
    have m2 : PyData.depthAll ds ≤ PyData.depthAll (d :: ds) := by simp only [PyData.depthAll]; exact Nat.le_max_right _ _
    refine ⟨b1 ++ b2, (hb1.mono m1).append (hb2.mono m2), ?_⟩
    simp only [PyData.shownAll]
    exact .cons ((k1.more fun b hb => List.mem_append_left b2 hb).level_le m1) (k2.more_le (fun b hb => List.mem_append_right b1 hb) m2)
end
end
section
variable {prog : Program} {w : World} {g : Heap} {a : Addr}
theorem RdN.shows {d : PyData} (r : RdN g (.ref a) d) (hs : d.showable = true) (hz : d.shown.length ≤ sizeLine) : ∃ T idr, ShowsBy prog w g a d T idr := by
  cases r with
  | lst h1 h2 h3 h4 =>
    rename_i o vs n xs
    have lz := len_list hz
    have sh : PyData.showableAll xs = true := by simpa [PyData.showable] using hs
    obtain ⟨bs, hb, hk⟩ := h4.rk (prog := prog) (w := w) sh fun t ht => Nat.le_trans (listText_mem_le ht) lz
    obtain ⟨as, rr⟩ := h4.reads
    have na := not_mem_of_deeper (.list h1 h2 h3 rr) deep_list hb
    refine ⟨"list", "list.__repr__", F.slot_list_repr.toG, F.slot_list_str, F.slot_list_format, fun s k => ⟨o, k _ _ h1, h2⟩, fun A E s Q gd un k q => ?_⟩
    simp only [PyData.depth] at un
    simp only [PyData.shown] at q
    obtain ⟨l⟩ := vs
    cases l with
    | nil =>
      cases (show RdNs g [] xs from h4)
      simp only [PyData.shownAll] at q
      rw [listText_nil] at q
      exact call_list_repr_empty ⟨o, k _ _ h1, h2⟩ (k _ _ h1) h3 (q s.heap _ _ fun _ _ e => e)
    | cons x l =>
      have e := hk.length_eq
      exact call_list_reprK h1 h2 h3 na (by simpa using e) (fun i y z => hk.item i y (by simpa using z)) gd (fun b _ => Clear.nil b) un k q lz
  | tup h1 h2 h3 h4 =>
    rename_i o vs n xs
    have lz := len_tup hz
    have sh : PyData.showableAll xs = true := by simpa [PyData.showable] using hs
    obtain ⟨bs, hb, hk⟩ := h4.rk (prog := prog) (w := w) sh fun t ht => Nat.le_trans (tupleText_mem_le ht) lz
    obtain ⟨as, rr⟩ := h4.reads
    have na := not_mem_of_deeper (.tuple h1 h2 h3 rr) deep_tup hb
    refine ⟨"tuple", "tuple.__repr__", F.slot_tuple_repr, F.slot_tuple_str, F.slot_tuple_format, fun s k => ⟨o, k _ _ h1, h2⟩, fun A E s Q gd un k q => ?_⟩
    simp only [PyData.depth] at un
    simp only [PyData.shown] at q
    exact call_tuple_reprK h1 h2 h3 na hk gd (fun b _ => Clear.nil b) un k q lz
  | dct h1 h2 h3 hm h4 h5 =>
    rename_i o es n kvs
    have lz := len_dict hz
    obtain ⟨sk, sv⟩ := PyData.showableKv_split kvs (by simpa [PyData.showable] using hs)
    obtain ⟨b1, hb1, k1⟩ := h4.rk (prog := prog) (w := w) sk fun t ht => by
      obtain ⟨p, hp, hl⟩ := PyData.shownKv_key_le kvs t ht
      exact Nat.le_trans hl (Nat.le_trans (dictText_mem_le hp) lz)
    obtain ⟨b2, hb2, k2⟩ := h5.rk (prog := prog) (w := w) sv fun t ht => by
      obtain ⟨p, hp, hl⟩ := PyData.shownKv_val_le kvs t ht
      exact Nat.le_trans hl (Nat.le_trans (dictText_mem_le hp) lz)
    obtain ⟨as, r1⟩ := h4.reads
    obtain ⟨as2, r2⟩ := h5.reads
    have both : ReadAtMost g (PyData.depthKv kvs) (b1 ++ b2) := (hb1.mono (PyData.depthAll_keys_le kvs)).append (hb2.mono (PyData.depthAll_vals_le kvs))
    have na := not_mem_of_deeper (.dict h1 h2 h3 r1 r2) deep_dict both
    have kk := k1.more_le (fun b hb => List.mem_append_left b2 hb) (PyData.depthAll_keys_le kvs)
    have kv := k2.more_le (fun b hb => List.mem_append_right b1 hb) (PyData.depthAll_vals_le kvs)
    refine ⟨"dict", "dict.__repr__", F.slot_dict_repr, F.slot_dict_str, F.slot_dict_format, fun s k => ⟨o, k _ _ h1, h2⟩, fun A E s Q gd un k q => ?_⟩
    simp only [PyData.depth] at un
    simp only [PyData.shown, PyData.shownKv_eq] at q
    exact call_dict_reprK h1 h2 h3 hm na (ReprEntriesK.of_two _ _ _ kk kv) gd (fun b _ => Clear.nil b) un k q (by rw [← PyData.shownKv_eq]; exact lz)
variable {A : Around} {E : Value → Shared → Prop} {s : Shared} {Q : Value → Shared → Prop}
theorem repr_rdn {d : PyData} (r : RdN s.heap (.ref a) d) (hs : d.showable = true) (hz : d.shown.length ≤ sizeLine) (gd : A.guards = some []) (un : A.units + (d.depth + 1) < cLine)
    (q : ∀ h' u tk, (∀ b o, s.heap.get? b = some o → h'.get? b = some o) → Q (.str d.shown u) { s with heap := h', toks := tk }) : wpAny (model prog w) A (call (.builtin "repr") [.ref a]) Q E s := by
  obtain ⟨T, idr, S⟩ := r.shows (prog := prog) (w := w) hs hz
  exact call_repr_slot (by omega) (S.typeIs s fun _ _ e => e) S.slotRepr (S.call A.in1 E s _ gd (by show A.units + 1 + d.depth < cLine; omega) (fun _ _ e => e) fun h' u tk k => ⟨_, _, rfl, q h' u tk k⟩)
end
/-! ### data as it stands in the heap that is told -/
mutual
inductive Dq (H : Hp) : V → PyData → Prop
  | non : Dq H .non .none
  | bl (b : Bool) : Dq H (.bl b) (.bool b)
  | int (i : Int) : Dq H (.int i) (.int i)
  | str (x : Str) : Dq H (.str x) (.str x)
  | lst {a : Addr} {xs : List V} {ds : List PyData} : H a = some (.lst xs) → Dqs H xs ds → Dq H (.ref a) (.list ds)
  | tup {a : Addr} {xs : List V} {ds : List PyData} : H a = some (.tup xs) → Dqs H xs ds → Dq H (.ref a) (.tuple ds)
  | dK {a : Addr} {kvs : List (Key × V)} {ds : List PyData} : H a = some (.dK kvs) → Dqs H (kvs.map fun p => p.2) ds → Dq H (.ref a) (.dict ((kvs.map fun p => fD (kV p.1)).zip ds))
inductive Dqs (H : Hp) : List V → List PyData → Prop
  | nil : Dqs H [] []
  | cons {v : V} {vs : List V} {d : PyData} {ds : List PyData} : Dq H v d → Dqs H vs ds → Dqs H (v :: vs) (d :: ds)
end
theorem Dqs.len {H : Hp} : ∀ {vs : List V} {ds : List PyData}, Dqs H vs ds → ds.length = vs.length
  | _, _, .nil => rfl
  | _, _, .cons _ y => by rw [List.length_cons, List.length_cons, y.len]
mutual
theorem Dq.keep {H H' : Hp} (s : Same H H') : ∀ {v : V} {d : PyData}, Dq H v d → Dq H' v d
  | _, _, .non => .non
  | _, _, .bl b => .bl b
  | _, _, .int i => .int i
  | _, _, .str x => .str x
  | _, _, .lst h x => .lst (s _ _ h) (x.keep s)
  | _, _, .tup h x => .tup (s _ _ h) (x.keep s)
  | _, _, .dK h x => .dK (s _ _ h) (x.keep s)
theorem Dqs.keep {H H' : Hp} (s : Same H H') : ∀ {vs : List V} {ds : List PyData}, Dqs H vs ds → Dqs H' vs ds
  | _, _, .nil => .nil
  | _, _, .cons x y => .cons (x.keep s) (y.keep s)
end
section
variable {X : Cx} {pins : List (Addr × Obj)} {σ : L2.St} {H : Hp} {s : Shared}
theorem rdn_keys {h : Heap} {prog : Program} {w : World} : ∀ {kvs : List (Key × V)} {vs : List (Key × Value)} {l : List DictEntry}, KV kvs vs → PySem.Pairs (mixKind prog w) l vs → RdNs h (l.map fun e => e.key) (kvs.map fun p => fD (kV p.1)) ∧ Vals (kvs.map fun p => p.2) (l.map fun e => e.val) := by
  intro kvs vs l r p
  induction r generalizing l with
  | nil => cases p; exact ⟨.nil, .nil⟩
  | @cons q u qs us hq ht ih =>
    cases p with
    | @cons en kv es' kvs' h1 h2 h3 =>
      obtain ⟨i1, i2⟩ := ih h3
      have rv : RelV q.2 en.val := by rw [h2]; exact hq.2
      refine ⟨.cons ?_ i1, .cons rv i2⟩
      show RdN h en.key (fD (kV q.1))
      rcases keyIs_shape (show keyIs u.1 en.key = true from h1) with ⟨i, t, ek, ev⟩ | ⟨x, t, ek, ev⟩
      · rw [hq.1, ek, ev]; exact .int i t
      · rw [hq.1, ek, ev]; exact .str x t
mutual
theorem Dq.rdn (I : Inv X pins σ H s) : ∀ {v : V} {d : PyData} (u : Value), Dq H v d → RelV v u → RdN s.heap u d
  | _, _, u, .non, r => by cases (show u = Value.none from r); exact .non
  | _, _, u, .bl b, r => by cases (show u = Value.bool b from r); exact .bl b
  | _, _, u, .int i, r => by obtain ⟨t, rfl⟩ := (show ∃ t, u = Value.int i t from r); exact .int i t
  | _, _, u, .str x, r => by obtain ⟨t, rfl⟩ := (show ∃ t, u = Value.str x t from r); exact .str x t
  | _, _, u, .lst (a := a) h x, r => by
    cases (show u = Value.ref a from r)
    obtain ⟨_, its, n, rv, e⟩ := I.hok a _ h
    exact .lst e rfl rfl (by simpa using x.rdn I its rv)
  | _, _, u, .tup (a := a) h x, r => by
    cases (show u = Value.ref a from r)
    obtain ⟨_, its, rv, o, e, hc, n, hd⟩ := I.hok a _ h
    exact .tup e hc hd (by simpa using x.rdn I its rv)
  | _, _, u, .dK (a := a) (kvs := kvs) (ds := ds) h x, r => by
    cases (show u = Value.ref a from r)
    obtain ⟨_, lo, vs, rel, o, es, ep, ho, hx, hd, _, hp, _⟩ := I.hok a _ h
    obtain ⟨g1, g2⟩ := rdn_keys (h := s.heap) rel hp
    have l := x.len
    rw [List.length_map] at l
    refine .dct ho hx.1 hd lo ?_ ?_
    · rw [List.map_fst_zip (by rw [List.length_map]; omega)]
      exact g1
    · rw [List.map_snd_zip (by rw [List.length_map]; omega)]
      exact x.rdn I _ g2
theorem Dqs.rdn (I : Inv X pins σ H s) : ∀ {vs : List V} {ds : List PyData} (us : List Value), Dqs H vs ds → Vals vs us → RdNs s.heap us ds
  | _, _, _, .nil, r => by cases r; exact .nil
  | _, _, _, .cons x y, r => by
    cases r with
    | cons r1 r2 => exact .cons (x.rdn I _ r1) (y.rdn I _ r2)
end
end
/-- what repr wants of a thing -/
def RepAs (H : Hp) (v : V) (d : PyData) : Prop := Dq H v d ∧ fineD d = true ∧ d.depth ≤ 60 ∧ wtD d ≤ 1000000
def RepOk (H : Hp) (v : V) : Prop := ∃ d, RepAs H v d
theorem RepAs.keep {H H' : Hp} {v : V} {d : PyData} (s : Same H H') (h : RepAs H v d) : RepAs H' v d := ⟨h.1.keep s, h.2⟩
theorem RepOk.keep {H H' : Hp} {v : V} (s : Same H H') (h : RepOk H v) : RepOk H' v := let ⟨d, x⟩ := h; ⟨d, x.keep s⟩
def rRepD : List V → Hp → VK → Prop := fun xs H Q => ∃ (v : V) (d : PyData), xs = [v] ∧ RepAs H v d ∧ Q (.str d.shown) H
theorem cr_repD {X : Cx} (hg : X.A.guards = some []) (hu : X.A.units + 64 < cLine) : CallR X (.builtin "repr") rRepD := by
  intro pins s σ H xs us Q I r h
  obtain ⟨v, d, rfl, ⟨dq, fn, dp, wt⟩, q⟩ := h
  have h2 : (sizeLine : Nat) = 16777216 := sizeLine_eq
  have sz : d.shown.length ≤ sizeLine := by have := shown_wt d fn; omega
  obtain ⟨u, rfl, ru⟩ := vals1 r
  cases v with
  | ref a =>
    cases (show u = Value.ref a from ru)
    exact repr_rdn (dq.rdn I _ rfl) (fine_show d fn) sz hg (by omega) fun h' u tk k => ⟨.str d.shown, H, I.kept (t' := tk) k, ⟨u, rfl⟩, q⟩
  | non =>
    cases dq
    cases (show u = Value.none from ru)
    exact PySem.P.repr_of_none ⟨.str _, H, I.tok _, ⟨_, rfl⟩, q⟩
  | bl b =>
    cases dq
    cases (show u = Value.bool b from ru)
    refine PySem.P.repr_of_bool ⟨.str _, H, I.tok _, ⟨_, rfl⟩, ?_⟩
    exact q
  | int i =>
    cases dq
    obtain ⟨t, rfl⟩ := ru
    refine PySem.P.repr_of_int (by simpa [fineD] using fn) ⟨.str _, H, I.tok _, ⟨_, rfl⟩, ?_⟩
    simp only [PyData.shown] at q
    exact q
  | str x =>
    cases dq
    obtain ⟨t, rfl⟩ := ru
    simp only [PyData.shown] at q sz
    exact PySem.P.repr_of_str ⟨.str _, H, I.tok _, ⟨_, rfl⟩, q⟩ sz
  | _ => cases dq
theorem w_repD {v : V} {d : PyData} {H : Hp} {Q : VK} (h : RepAs H v d) (q : Q (.str d.shown) H) : rRepD [v] H Q := ⟨v, d, rfl, h, q⟩
/-! small data -/
theorem RepAs.non {H : Hp} : RepAs H .non .none := ⟨.non, rfl, by decide, by decide⟩
theorem RepAs.bl {H : Hp} (b : Bool) : RepAs H (.bl b) (.bool b) := ⟨.bl b, rfl, by simp only [PyData.depth]; decide, by simp only [wtD]; decide⟩
theorem RepAs.int {H : Hp} {i : Int} (h : i.natAbs.log2 < 1920) : RepAs H (.int i) (.int i) := ⟨.int i, by simp only [fineD]; exact decide_eq_true h, by simp only [PyData.depth]; decide, by simp only [wtD]; decide⟩
theorem RepAs.str {H : Hp} {x : Str} (h : PyData.strOk x = true) (l : x.length ≤ 99000) : RepAs H (.str x) (.str x) := ⟨.str x, by simp only [fineD]; exact h, by simp only [PyData.depth]; decide, by simp only [wtD]; omega⟩
/-- data of at most p levels and weight w -/
def Rb (H : Hp) (v : V) (p w : Nat) : Prop := ∃ d, Dq H v d ∧ fineD d = true ∧ d.depth ≤ p ∧ wtD d ≤ w
theorem Rb.keep {H H' : Hp} {v : V} {p w : Nat} (s : Same H H') (h : Rb H v p w) : Rb H' v p w := let ⟨d, x, y⟩ := h; ⟨d, x.keep s, y⟩
theorem Rb.mono {H : Hp} {v : V} {p w p' w' : Nat} (h : Rb H v p w) (h1 : p ≤ p') (h2 : w ≤ w') : Rb H v p' w' := let ⟨d, x, y, z, t⟩ := h; ⟨d, x, y, Nat.le_trans z h1, Nat.le_trans t h2⟩
theorem Rb.ok {H : Hp} {v : V} {p w : Nat} (h : Rb H v p w) (h1 : p ≤ 60) (h2 : w ≤ 1000000) : RepOk H v := let ⟨d, x, y, z, t⟩ := h; ⟨d, x, y, Nat.le_trans z h1, Nat.le_trans t h2⟩
theorem Rb.non {H : Hp} : Rb H .non 1 4 := ⟨_, .non, rfl, by simp only [PyData.depth]; decide, by simp only [wtD]; decide⟩
theorem Rb.bl {H : Hp} (b : Bool) : Rb H (.bl b) 1 5 := ⟨_, .bl b, rfl, by simp only [PyData.depth]; decide, by simp only [wtD]; decide⟩
theorem Rb.int {H : Hp} {i : Int} (h : i.natAbs.log2 < 1920) : Rb H (.int i) 1 1921 := ⟨_, .int i, by simp only [fineD]; exact decide_eq_true h, by simp only [PyData.depth]; decide, by simp only [wtD]; decide⟩
theorem Rb.str {H : Hp} {x : Str} (h : PyData.strOk x = true) {w : Nat} (l : 10 * x.length + 2 ≤ w) : Rb H (.str x) 1 w := ⟨_, .str x, by simp only [fineD]; exact h, by simp only [PyData.depth]; decide, by simp only [wtD]; exact l⟩
theorem Rb.all {H : Hp} {p w : Nat} : ∀ {xs : List V}, (∀ x ∈ xs, Rb H x p w) → ∃ ds, Dqs H xs ds ∧ fineAll ds = true ∧ PyData.depthAll ds ≤ p ∧ wtAll ds ≤ xs.length * (w + 2)
  | [], _ => ⟨[], .nil, rfl, by simp only [PyData.depthAll]; omega, by simp only [wtAll]; omega⟩
  | x :: xs, h => by
    obtain ⟨d, a1, a2, a3, a4⟩ := h x List.mem_cons_self
    obtain ⟨ds, b1, b2, b3, b4⟩ := Rb.all (xs := xs) fun y hy => h y (List.mem_cons_of_mem _ hy)
    refine ⟨d :: ds, .cons a1 b1, by simp only [fineAll, a2, b2]; rfl, by simp only [PyData.depthAll]; omega, ?_⟩
    simp only [wtAll]
    rw [List.length_cons, Nat.succ_mul]
    omega
theorem Rb.lst {H : Hp} {p w : Nat} {a : Addr} {xs : List V} (e : H a = some (.lst xs)) (h : ∀ x ∈ xs, Rb H x p w) : Rb H (.ref a) (p + 1) (xs.length * (w + 2) + 2) := by
  obtain ⟨ds, b1, b2, b3, b4⟩ := Rb.all h
  exact ⟨_, .lst e b1, by simp only [fineD]; exact b2, by simp only [PyData.depth]; omega, by simp only [wtD]; omega⟩
theorem Rb.tup {H : Hp} {p w : Nat} {a : Addr} {xs : List V} (e : H a = some (.tup xs)) (h : ∀ x ∈ xs, Rb H x p w) : Rb H (.ref a) (p + 1) (xs.length * (w + 2) + 3) := by
  obtain ⟨ds, b1, b2, b3, b4⟩ := Rb.all h
  exact ⟨_, .tup e b1, by simp only [fineD]; exact b2, by simp only [PyData.depth]; omega, by simp only [wtD]; omega⟩
theorem kv_zipD {p w : Nat} : ∀ {ks ds : List PyData}, ks.length = ds.length → fineAll ks = true → fineAll ds = true → (∀ k ∈ ks, k.depth ≤ p ∧ wtD k ≤ w) → fineKv (ks.zip ds) = true ∧ PyData.depthKv (ks.zip ds) ≤ max p (PyData.depthAll ds) ∧ wtKv (ks.zip ds) ≤ ks.length * (w + 2) + wtAll ds
  | [], [], _, _, _, _ => ⟨rfl, by simp only [List.zip_nil_left, PyData.depthKv]; omega, by simp only [List.zip_nil_left, wtKv]; omega⟩
  | [], _ :: _, h, _, _, _ => by cases h
  | _ :: _, [], h, _, _, _ => by cases h
  | k :: ks, d :: ds, h, f1, f2, hk => by
    have f1' : fineD k = true ∧ fineAll ks = true := by simpa [fineAll] using f1
    have f2' : fineD d = true ∧ fineAll ds = true := by simpa [fineAll] using f2
    obtain ⟨z1, z2, z3⟩ := kv_zipD (ks := ks) (ds := ds) (by simpa using h) f1'.2 f2'.2 fun x hx => hk x (List.mem_cons_of_mem _ hx)
    obtain ⟨k1, k2⟩ := hk k List.mem_cons_self
    rw [List.zip_cons_cons]
    refine ⟨by simp only [fineKv, f1'.1, f2'.1, z1]; rfl, ?_, ?_⟩
    · simp only [PyData.depthKv, PyData.depthAll]
      omega
    · simp only [wtKv, wtAll]
      rw [List.length_cons, Nat.succ_mul]
      omega
theorem Rb.dK {H : Hp} {p w : Nat} {a : Addr} {kvs : List (Key × V)} (e : H a = some (.dK kvs)) (h1 : ∀ kv ∈ kvs, Rb H (kV kv.1) p w) (h2 : ∀ kv ∈ kvs, Rb H kv.2 p w) : Rb H (.ref a) (p + 1) (kvs.length * (2 * w + 4) + 2) := by
  obtain ⟨ds, b1, b2, b3, b4⟩ := Rb.all (H := H) (p := p) (w := w) (xs := kvs.map fun kv => kv.2) fun x hx => by
    obtain ⟨kv, hk, rfl⟩ := List.mem_map.mp hx
    exact h2 kv hk
  have l := b1.len
  rw [List.length_map] at l b4
  have kf : ∀ kv ∈ kvs, fineD (fD (kV kv.1)) = true ∧ (fD (kV kv.1)).depth ≤ p ∧ wtD (fD (kV kv.1)) ≤ w := fun kv hk => by
    obtain ⟨d, q1, q2⟩ := h1 kv hk
    obtain ⟨k, v⟩ := kv
    cases k with
    | inl i => cases q1; exact q2
    | inr x => cases q1; exact q2
  have kz : fineAll (kvs.map fun kv => fD (kV kv.1)) = true := by
    clear b1 b2 b3 b4 l h1 h2 e
    induction kvs with
    | nil => rfl
    | cons kv r ih =>
      rw [List.map_cons]
      simp only [fineAll, (kf kv List.mem_cons_self).1, ih fun x hx => kf x (List.mem_cons_of_mem _ hx)]
      rfl
  obtain ⟨z1, z2, z3⟩ := kv_zipD (p := p) (w := w) (ks := kvs.map fun kv => fD (kV kv.1)) (ds := ds) (by rw [List.length_map]; omega) kz b2 fun k hk => by
    obtain ⟨kv, hkv, rfl⟩ := List.mem_map.mp hk
    exact (kf kv hkv).2
  rw [List.length_map] at z3
  refine ⟨_, .dK e b1, by simp only [fineD]; exact z1, by simp only [PyData.depth]; omega, ?_⟩
  simp only [wtD]
  have m : kvs.length * (2 * w + 4) = kvs.length * (w + 2) + kvs.length * (w + 2) := by rw [← Nat.mul_add]; congr 1; omega
  omega

/-! Kli: displays of written data, read as data at new places. -/
open Classical in
/-- the places of H that N allows -/
noncomputable def rs (N : Addr → Prop) (H : Hp) : Hp := fun b => if N b then H b else none
theorem rs_some {N : Addr → Prop} {H : Hp} {b : Addr} {o : HO} (h : rs N H b = some o) : N b ∧ H b = some o := by
  unfold rs at h
  split at h
  · exact ⟨by assumption, h⟩
  · cases h
theorem rs_of {N : Addr → Prop} {H : Hp} {b : Addr} {o : HO} (n : N b) (h : H b = some o) : rs N H b = some o := by
  unfold rs
  rw [if_pos n]
  exact h
theorem rs_same (N : Addr → Prop) (H : Hp) : Same (rs N H) H := fun _ _ h => (rs_some h).2
theorem rs_mono {N : Addr → Prop} {H H' : Hp} (s : Same H H') : Same (rs N H) (rs N H') := fun _ _ h => rs_of (rs_some h).1 (s _ _ (rs_some h).2)
theorem rs_weak {N M : Addr → Prop} {H H' : Hp} (f : ∀ b, N b → H b ≠ none → M b) (s : Same H H') : Same (rs N H) (rs M H') := fun b _ h => rs_of (f b (rs_some h).1 (by rw [(rs_some h).2]; exact fun z => nomatch z)) (s _ _ (rs_some h).2)
theorem rs_kp {N : Addr → Prop} {S : List Addr} {H H' : Hp} (hS : ∀ b ∈ S, ¬ N b) (k : Kp S H H') : Same (rs N H) (rs N H') := fun b _ h => rs_of (rs_some h).1 (kp_at k (fun z => hS b z (rs_some h).1) (rs_some h).2)
/-- an expression that lays out the data d, at places that N allows -/
def LitE (N : Addr → Prop) (te : TE) (σ : L2.St) (H : Hp) (d : PyData) : Prop := ∀ (M : Addr → Prop) H1 (Q : VK), Same H H1 → (∀ b, H1 b = none → M b) → (∀ b, N b → H b ≠ none → M b) → (∀ v H2, Same H1 H2 → Dq (rs M H2) v d → Q v H2) → te σ H1 Q
def LitA (N : Addr → Prop) (ta : TA) (σ : L2.St) (H : Hp) (ds : List PyData) : Prop := ∀ (M : Addr → Prop) H1 (Q : List V → Hp → Prop), Same H H1 → (∀ b, H1 b = none → M b) → (∀ b, N b → H b ≠ none → M b) → (∀ vs H2, Same H1 H2 → Dqs (rs M H2) vs ds → Q vs H2) → ta σ H1 Q
def LitP (N : Addr → Prop) (tp : List (TE × TE)) (σ : L2.St) (H : Hp) (ks : List Key) (ds : List PyData) : Prop := ∀ (M : Addr → Prop) H1 (Q : List (V × V) → Hp → Prop), Same H H1 → (∀ b, H1 b = none → M b) → (∀ b, N b → H b ≠ none → M b) → (∀ vs H2, Same H1 H2 → Dqs (rs M H2) vs ds → Q ((ks.zip vs).map fun kv => (kV kv.1, kv.2)) H2) → tPairs tp σ H1 Q
section
variable {N : Addr → Prop} {H : Hp} {σ : L2.St}
theorem lit_int {te : TE} {i : Int} (h : ∀ (H1 : Hp) (Q : VK), Q (.int i) H1 → te σ H1 Q) : LitE N te σ H (.int i) := fun M H1 Q _ _ _ k => h H1 Q (k _ _ (Same.refl _) (.int i))
theorem lit_str {te : TE} {x : Str} (h : ∀ (H1 : Hp) (Q : VK), Q (.str x) H1 → te σ H1 Q) : LitE N te σ H (.str x) := fun M H1 Q _ _ _ k => h H1 Q (k _ _ (Same.refl _) (.str x))
theorem lit_cint {i : Int} : LitE N (tC (.int i)) σ H (.int i) := fun M H1 Q _ _ _ k => k _ _ (Same.refl _) (.int i)
theorem lit_cbl {b : Bool} : LitE N (tC (.bl b)) σ H (.bool b) := fun M H1 Q _ _ _ k => k _ _ (Same.refl _) (.bl b)
theorem lit_cnon : LitE N (tC .non) σ H .none := fun M H1 Q _ _ _ k => k _ _ (Same.refl _) .non
theorem lit_cstr {x : Str} : LitE N (tC (.str x)) σ H (.str x) := fun M H1 Q _ _ _ k => k _ _ (Same.refl _) (.str x)
/-- a name of what is read as data -/
theorem lit_var {i : Nat} {v : V} {d : PyData} (e : σ[i]? = some (some v)) (h : Dq (rs N H) v d) : LitE N (tVar i) σ H d := fun M H1 Q s _ f k => ⟨v, e, k _ _ (Same.refl _) (h.keep (rs_weak f s))⟩
theorem lit_nil : LitA N tNil σ H [] := fun M H1 Q _ _ _ k => k _ _ (Same.refl _) .nil
theorem lit_cons {te : TE} {ta : TA} {d : PyData} {ds : List PyData} (h : LitE N te σ H d) (h2 : LitA N ta σ H ds) : LitA N (tCons te ta) σ H (d :: ds) := fun M H1 Q s g f k =>
  h M H1 _ s g f fun v H2 s2 r => h2 M H2 _ (s.trans s2) (fun b z => g b (Same.free s2 z)) f fun vs H3 s3 rr => k _ _ (s2.trans s3) (.cons (r.keep (rs_mono s3)) rr)
theorem lit_lst {ta : TA} {ds : List PyData} (h : LitA N ta σ H ds) (hl : Nat.ble ds.length 1000 = true) : LitE N (tLstN ta) σ H (.list ds) := fun M H1 Q s g f k =>
  h M H1 _ s g f fun vs H2 s2 rr => ⟨by rw [← rr.len]; have h2 : (sizeLine : Nat) = 16777216 := sizeLine_eq; have := Nat.le_of_ble_eq_true hl; omega, fun p H3 np s3 e => k _ _ (s2.trans s3) (.lst (rs_of (g p (Same.free s2 np)) e) (rr.keep (rs_mono s3)))⟩
theorem lit_tup {ta : TA} {ds : List PyData} (h : LitA N ta σ H ds) (hl : Nat.ble ds.length 1000 = true) : LitE N (tTupN ta) σ H (.tuple ds) := fun M H1 Q s g f k =>
  h M H1 _ s g f fun vs H2 s2 rr => ⟨by rw [← rr.len]; have h2 : (sizeLine : Nat) = 16777216 := sizeLine_eq; have := Nat.le_of_ble_eq_true hl; omega, fun p H3 np s3 e => k _ _ (s2.trans s3) (.tup (rs_of (g p (Same.free s2 np)) e) (rr.keep (rs_mono s3)))⟩
theorem lit_dnew : LitE N tDNewK σ H (.dict []) := fun M H1 Q s g f k => fun p hp => k _ _ (same_upd hp) (.dK (kvs := []) (rs_of (g p hp) upd_same) .nil)
theorem lit_pnil : LitP N [] σ H [] [] := fun M H1 Q _ _ _ k => k _ _ (Same.refl _) .nil
theorem lit_pcons {k : Key} {tv : TE} {tp : List (TE × TE)} {d : PyData} {ks : List Key} {ds : List PyData} (h : LitE N tv σ H d) (h2 : LitP N tp σ H ks ds) : LitP N ((tC (kV k), tv) :: tp) σ H (k :: ks) (d :: ds) := fun M H1 Q s g f c =>
  h M H1 _ s g f fun v H2 s2 r => h2 M H2 _ (s.trans s2) (fun b z => g b (Same.free s2 z)) f fun vs H3 s3 rr => c _ _ (s2.trans s3) (.cons (r.keep (rs_mono s3)) rr)
theorem lit_pcI {i : Int} {tv : TE} {tp : List (TE × TE)} {d : PyData} {ks : List Key} {ds : List PyData} (h : LitE N tv σ H d) (h2 : LitP N tp σ H ks ds) : LitP N ((tC (.int i), tv) :: tp) σ H (.inl i :: ks) (d :: ds) := lit_pcons (k := .inl i) h h2
theorem lit_pcS {x : Str} {tv : TE} {tp : List (TE × TE)} {d : PyData} {ks : List Key} {ds : List PyData} (h : LitE N tv σ H d) (h2 : LitP N tp σ H ks ds) : LitP N ((tC (.str x), tv) :: tp) σ H (keyS x :: ks) (d :: ds) := lit_pcons (k := keyS x) h h2
theorem lit_disp {tp : List (TE × TE)} {ks : List Key} {ds : List PyData} (h : LitP N tp σ H ks ds) (hl : ks.length = ds.length ∧ ks.length ≤ 15) (nd : ks.Nodup) : LitE N (tDisp tp) σ H (.dict ((ks.map fun k => fD (kV k)).zip ds)) := fun M H1 Q s g f k => fun p hp => by
  have nb : ∀ {b : Addr}, upd H1 p (.dK []) b = none → b ≠ p ∧ H1 b = none := fun {b} z => by
    by_cases e : b = p
    · rw [e, upd_same] at z; cases z
    · exact ⟨e, by rw [upd_ne e] at z; exact z⟩
  refine h (fun b => M b ∧ b ≠ p) _ _ (s.trans (same_upd hp)) (fun b z => ⟨g b (nb z).2, (nb z).1⟩) (fun b n z => ⟨f b n z, fun e => ?_⟩) fun vs H2 s2 rr => ?_
  · cases eb : H b with
    | none => exact z eb
    | some o =>
      have := s _ _ eb
      rw [e, hp] at this
      cases this
  have e2 := s2 _ _ (upd_same (H := H1) (a := p) (o := .dK []))
  have l := rr.len
  have ez : (ks.zip vs).map (·.1) = ks := List.map_fst_zip (by omega)
  have ez2 : (ks.zip vs).map (·.2) = vs := List.map_snd_zip (by omega)
  refine ⟨e2, ks.zip vs, rfl, (by rw [List.length_zip]; omega : (ks.zip vs).length ≤ 15), ?_⟩
  have em : mergeK [] (ks.zip vs) = ks.zip vs := by
    rw [mergeK_nodup (by rw [List.nil_append]; rw [ez]; exact nd), List.nil_append]
  rw [em]
  have s3 : Same H1 (upd H2 p (.dK (ks.zip vs))) := same_put ((same_upd hp).trans s2) hp
  refine k _ _ s3 ?_
  have kk : Same (rs (fun b => M b ∧ b ≠ p) H2) (rs M (upd H2 p (.dK (ks.zip vs)))) := fun b o q => by
    obtain ⟨⟨q1, q2⟩, q3⟩ := rs_some q
    exact rs_of q1 (by rw [upd_ne q2]; exact q3)
  have hd := Dq.dK (kvs := ks.zip vs) (ds := ds) (H := rs M (upd H2 p (.dK (ks.zip vs)))) (a := p) (rs_of (g p hp) upd_same) (by
    rw [ez2]
    exact rr.keep kk)
  have e3 : ((ks.zip vs).map fun q => fD (kV q.1)) = ks.map fun k => fD (kV k) := by
    conv => rhs; rw [← ez]
    rw [List.map_map]
    rfl
  rw [e3] at hd
  exact hd
end
/-- a display that is to be taken in one step -/
def tLit (t : TE) : TE := t
theorem pe_lit {X : Cx} {e : Expr} {t : TE} (h : PE X e t) : PE X e (tLit t) := h
theorem w_lit {t : TE} {σ : L2.St} {H : Hp} {Q : VK} (N : Addr → Prop) (hN : ∀ b, H b = none → N b) {d : PyData} (h : LitE N t σ H d) (k : ∀ v H', Same H H' → Dq (rs N H') v d → Q v H') : tLit t σ H Q := h N H Q (Same.refl _) hN (fun _ n _ => n) k
/-! what is read as data: its shape -/
theorem Dq.list {H : Hp} {v : V} {ds : List PyData} (h : Dq H v (.list ds)) : ∃ a xs, v = .ref a ∧ H a = some (.lst xs) ∧ Dqs H xs ds := by
  cases h with
  | lst e r => exact ⟨_, _, rfl, e, r⟩
theorem Dq.tuple {H : Hp} {v : V} {ds : List PyData} (h : Dq H v (.tuple ds)) : ∃ a xs, v = .ref a ∧ H a = some (.tup xs) ∧ Dqs H xs ds := by
  cases h with
  | tup e r => exact ⟨_, _, rfl, e, r⟩
theorem Dq.listR {N : Addr → Prop} {H : Hp} {v : V} {ds : List PyData} (h : Dq (rs N H) v (.list ds)) : ∃ a xs, v = .ref a ∧ N a ∧ H a = some (.lst xs) ∧ Dqs (rs N H) xs ds := by
  obtain ⟨a, xs, e, h1, h2⟩ := h.list
  exact ⟨a, xs, e, (rs_some h1).1, (rs_some h1).2, h2⟩
theorem Dq.tupleR {N : Addr → Prop} {H : Hp} {v : V} {ds : List PyData} (h : Dq (rs N H) v (.tuple ds)) : ∃ a xs, v = .ref a ∧ N a ∧ H a = some (.tup xs) ∧ Dqs (rs N H) xs ds := by
  obtain ⟨a, xs, e, h1, h2⟩ := h.tuple
  exact ⟨a, xs, e, (rs_some h1).1, (rs_some h1).2, h2⟩
theorem Dqs.at {H : Hp} : ∀ {vs : List V} {ds : List PyData} {i : Nat} {v : V}, Dqs H vs ds → vs[i]? = some v → ∃ d, ds[i]? = some d ∧ Dq H v d
  | _, _, _, _, .nil, h => by simp at h
  | _, _, 0, _, .cons x _, h => ⟨_, rfl, by cases h; exact x⟩
  | _, _, i + 1, _, .cons _ y, h => y.at (i := i) h
theorem Dqs.mem {H : Hp} {vs : List V} {ds : List PyData} {v : V} (h : Dqs H vs ds) (hv : v ∈ vs) : ∃ d ∈ ds, Dq H v d := by
  obtain ⟨i, hi, e⟩ := List.getElem_of_mem hv
  obtain ⟨d, h1, h2⟩ := h.at (i := i) (v := v) (by rw [← e]; simp [hi])
  exact ⟨d, List.mem_of_getElem? h1, h2⟩
theorem Dqs.app {H : Hp} : ∀ {vs us : List V} {ds es : List PyData}, Dqs H vs ds → Dqs H us es → Dqs H (vs ++ us) (ds ++ es)
  | _, _, _, _, .nil, y => y
  | _, _, _, _, .cons x z, y => .cons x (z.app y)
mutual
/-- data of small parts -/
def smD : PyData → Bool
  | .none => true
  | .bool _ => true
  | .int _ => true
  | .str x => decide (x.length ≤ 20000) && PyData.strOk x
  | .list xs => Nat.ble xs.length 1000 && smAll xs
  | .tuple xs => Nat.ble xs.length 1000 && smAll xs
  | .dict kvs => Nat.ble kvs.length 1000 && smKv kvs
def smAll : List PyData → Bool
  | [] => true
  | x :: xs => smD x && smAll xs
def smKv : List (PyData × PyData) → Bool
  | [] => true
  | (k, v) :: r => smD k && smD v && smKv r
end
theorem smKv_zip : ∀ {ks : List Key} {ds : List PyData}, ks.length = ds.length → smKv ((ks.map fun k => fD (kV k)).zip ds) = true → (∀ k ∈ ks, okK k) ∧ smAll ds = true
  | [], [], _, _ => ⟨fun _ z => (nomatch z), rfl⟩
  | [], _ :: _, h, _ => by cases h
  | _ :: _, [], h, _ => by cases h
  | k :: ks, d :: ds, h, s => by
    rw [List.map_cons, List.zip_cons_cons] at s
    simp only [smKv, Bool.and_eq_true] at s
    obtain ⟨⟨s1, s2⟩, s3⟩ := s
    obtain ⟨i1, i2⟩ := smKv_zip (ks := ks) (ds := ds) (by simpa using h) s3
    refine ⟨fun z hz => ?_, by simp only [smAll, s2, i2, Bool.and_self]⟩
    rcases List.mem_cons.mp hz with rfl | hz
    · cases z with
      | inl i => trivial
      | inr x =>
        have q : (decide (x.length ≤ 20000) && PyData.strOk x) = true := s1
        rw [Bool.and_eq_true, decide_eq_true_iff] at q
        exact q
    · exact i1 z hz
theorem smL {xs : List PyData} (s : smD (.list xs) = true) : Nat.ble xs.length 1000 = true ∧ smAll xs = true := by
  simpa only [smD, Bool.and_eq_true] using s
theorem smT {xs : List PyData} (s : smD (.tuple xs) = true) : Nat.ble xs.length 1000 = true ∧ smAll xs = true := by
  simpa only [smD, Bool.and_eq_true] using s
theorem smC {x : PyData} {xs : List PyData} (s : smAll (x :: xs) = true) : smD x = true ∧ smAll xs = true := by
  simpa only [smAll, Bool.and_eq_true] using s
theorem smKd {kvs : List (Key × V)} {ds : List PyData} (l : ds.length = (kvs.map fun p => p.2).length) (s : smD (.dict ((kvs.map fun p => fD (kV p.1)).zip ds)) = true) : kvs.length ≤ 1000 ∧ (∀ kv ∈ kvs, okK kv.1) ∧ smAll ds = true := by
  simp only [smD, Bool.and_eq_true] at s
  rw [List.length_map] at l
  have e : (kvs.map fun p => fD (kV p.1)) = (kvs.map (·.1)).map fun k => fD (kV k) := by rw [List.map_map]; rfl
  rw [e] at s
  obtain ⟨s1, s2⟩ := s
  obtain ⟨i1, i2⟩ := smKv_zip (by rw [List.length_map]; omega) s2
  have hz := Nat.le_of_ble_eq_true s1
  rw [List.length_zip, List.length_map, List.length_map, l, Nat.min_self] at hz
  exact ⟨hz, fun kv hm => i1 _ (List.mem_map_of_mem hm), i2⟩
theorem all_of_map {α β : Type} {P : β → Prop} {f : α → β} {xs : List α} (h : ∀ v ∈ xs.map f, P v) : ∀ x ∈ xs, P (f x) := fun x hx => h _ (List.mem_map_of_mem hx)
theorem all_cons_of {α : Type} {P : α → Prop} {x : α} {xs : List α} (h : P x) (h2 : ∀ y ∈ xs, P y) : ∀ y ∈ x :: xs, P y := fun y hy => by
  rcases List.mem_cons.mp hy with rfl | hy
  · exact h
  · exact h2 y hy
mutual
theorem Dq.any {H : Hp} : ∀ {v : V} {d : PyData}, Dq H v d → smD d = true → AnyV H v
  | _, _, .non, _ => .non
  | _, _, .bl b, _ => .bl b
  | _, _, .int i, _ => .int i
  | _, _, .str x, s => .str x (by
    have q : (decide (x.length ≤ 20000) && PyData.strOk x) = true := s
    rw [Bool.and_eq_true, decide_eq_true_iff] at q
    exact q)
  | _, _, .lst h r, s => .lst h (by rw [← r.len]; exact Nat.le_of_ble_eq_true (smL s).1) (r.any (smL s).2)
  | _, _, .tup h r, s => .tup h (by rw [← r.len]; exact Nat.le_of_ble_eq_true (smT s).1) (r.any (smT s).2)
  | _, _, .dK h r, s => .dK h (smKd r.len s).1 (smKd r.len s).2.1 (all_of_map (r.any (smKd r.len s).2.2))
theorem Dqs.any {H : Hp} : ∀ {vs : List V} {ds : List PyData}, Dqs H vs ds → smAll ds = true → ∀ v ∈ vs, AnyV H v
  | _, _, .nil, _ => fun _ z => nomatch z
  | _, _, .cons x y, s => all_cons_of (x.any (smC s).1) (y.any (smC s).2)
end
/-- small data of at most p levels and weight q -/
def okD (p q : Nat) (d : PyData) : Bool := smD d && fineD d && Nat.ble d.depth p && Nat.ble (wtD d) q
theorem okD_any {H : Hp} {v : V} {d : PyData} {p q : Nat} (h : Dq H v d) (o : okD p q d = true) : AnyV H v ∧ Rb H v p q := by
  unfold okD at o
  simp only [Bool.and_eq_true] at o
  obtain ⟨⟨⟨o1, o2⟩, o3⟩, o4⟩ := o
  exact ⟨h.any o1, d, h, o2, Nat.le_of_ble_eq_true o3, Nat.le_of_ble_eq_true o4⟩
theorem okD_rep {H : Hp} {v : V} {d : PyData} {p q : Nat} (h : Dq H v d) (o : okD p q d = true) (hp : p ≤ 60) (hq : q ≤ 1000000) : RepAs H v d := by
  unfold okD at o
  simp only [Bool.and_eq_true] at o
  obtain ⟨⟨⟨o1, o2⟩, o3⟩, o4⟩ := o
  exact ⟨h, o2, Nat.le_trans (Nat.le_of_ble_eq_true o3) hp, Nat.le_trans (Nat.le_of_ble_eq_true o4) hq⟩

/-! Khp: facts of heaps, for grind (walk_at "h"). -/
theorem same_eq {H H' : Hp} : Same H H' = ∀ b, H b ≠ none → H' b = H b := propext ⟨fun k b n => by
  cases e : H b with
  | none => exact absurd e n
  | some o => exact k b o e, fun f b o e => by rw [f b (by rw [e]; exact fun z => nomatch z)]; exact e⟩
theorem kp_eq {S : List Addr} {H H' : Hp} : Same (wo S H) (wo S H') = ∀ b, b ∈ S ∨ H b = none ∨ H' b = H b := propext ⟨fun k b => by
  by_cases n : b ∈ S
  · exact .inl n
  · cases e : H b with
    | none => exact .inr (.inl rfl)
    | some o => exact .inr (.inr (kp_at k n e)), fun f b o e => wo_of (wo_some e).1 (by
      rcases f b with z | z | z
      · exact absurd z (wo_some e).1
      · rw [(wo_some e).2] at z; cases z
      · rw [z]; exact (wo_some e).2)⟩
theorem rs_eq {N M : Addr → Prop} {H H' : Hp} : Same (rs N H) (rs M H') = ∀ b, N b → H b ≠ none → M b ∧ H' b = H b := propext ⟨fun k b n h => by
  cases e : H b with
  | none => exact absurd e h
  | some o => exact rs_some (k b o (rs_of n e)), fun f b o e => by
    obtain ⟨e1, e2⟩ := rs_some e
    obtain ⟨f1, f2⟩ := f b e1 (by rw [e2]; exact fun z => nomatch z)
    exact rs_of f1 (by rw [f2]; exact e2)⟩
theorem rs_at {N : Addr → Prop} {H : Hp} {b : Addr} {o : HO} (h : rs N H b = some o) : N b ∧ H b = some o := rs_some h
/-- what kind of thing stands at a place -/
def okind : Option HO → Nat
  | none => 0
  | some (.lst _) => 1
  | some (.tup _) => 2
  | some (.dK _) => 3
  | some (.ins _ _ _) => 4
  | some (.frz _ _) => 5
  | some (.ext _) => 6
  | some (.xd _) => 7
  | some _ => 8
theorem ok_n : okind none = 0 := rfl
theorem ok_l {xs : List V} : okind (some (.lst xs)) = 1 := rfl
theorem ok_t {xs : List V} : okind (some (.tup xs)) = 2 := rfl
theorem ok_d {kvs : List (Key × V)} : okind (some (.dK kvs)) = 3 := rfl
theorem ok_i {C d : Addr} {fs : List (Str × V)} : okind (some (.ins C d fs)) = 4 := rfl
theorem ok_f {od : Obj} {u : HO} : okind (some (.frz od u)) = 5 := rfl
theorem pn_ex {b : Nat} {p l : Addr} {H : Hp} (P : PenAt b p l H) : okind (H p) = 1 ∧ okind (H l) = 1 ∧ l ≠ p ∧ H p ≠ none ∧ H l ≠ none := by
  obtain ⟨ns, i, r, h1, h2, _, _, _, h3⟩ := P.ex
  rw [h1, h2]
  exact ⟨rfl, rfl, h3, fun z => (nomatch z), fun z => nomatch z⟩
theorem upd_eq {H : Hp} {a b : Addr} {o : HO} : upd H a o b = if b = a then some o else H b := by
  by_cases h : b = a
  · rw [if_pos h, h, upd_same]
  · rw [if_neg h, upd_ne h]
theorem wo_eq {S : List Addr} {H : Hp} {b : Addr} : wo S H b = if b ∈ S then none else H b := rfl
/-- the draws' list as it stands later -/
theorem pen_to {b n : Nat} {p l : Addr} {H H' : Hp} (P : PenAt b p l H) (h : H' p = H p ∧ H' l = H l) (hn : b ≤ n) : PenAt n p l H' := by
  obtain ⟨ns, idx, rest, h1, h2, h3, h4, r⟩ := P.ex
  exact ⟨ns, idx, rest, h.1.trans h1, h.2.trans h2, h3, by omega, r⟩

/-! Kn: xs.count(b) of truth values; list(d.items()) with K told. -/
theorem rd_bls {h : Heap} : ∀ {bs : List Bool} {us : List Value}, Vals (bs.map V.bl) us → ReadsAll h us (bs.map PyData.bool) []
  | [], _, r => by cases r; exact .nil
  | b :: t, _, r => by
    cases r with
    | cons a r' => exact ReadsAll.cons (as := []) (bs := []) (rd_flat (v := .bl b) rfl a) (rd_bls r')
theorem plain_bls : ∀ bs : List Bool, PyData.plainAll (bs.map PyData.bool) = true
  | [] => rfl
  | b :: t => by simp [PyData.plainAll, PyData.plain, plain_bls t]
theorem count_bls (bs : List Bool) (b : Bool) : (bs.map PyData.bool).countP (fun y => PyData.eqv y (.bool b)) = bs.countP fun c => c == b := by
  rw [List.countP_map]
  refine List.countP_congr fun c _ => ?_
  simp only [Function.comp]
  cases c <;> cases b <;> decide +kernel
def rCountB : V → List V → Hp → VK → Prop := fun x vs H Q => ∃ (l : Addr) (bs : List Bool) (b : Bool), x = .ref l ∧ vs = [.bl b] ∧ H l = some (.lst (bs.map V.bl)) ∧ Q (.int ((bs.countP fun c => c == b : Nat) : Int)) H
theorem mt_countB {X : Cx} (hu : X.A.units + 64 < cLine) : MtM X "list.count" rCountB := by
  intro pins s σ H x vs v us Q I rx rv h
  obtain ⟨l, bs, b, rfl, rfl, hH, q⟩ := h
  cases rx
  obtain ⟨u, rfl, ru⟩ := rv.one
  cases (show u = Value.bool b from ru)
  obtain ⟨its, r, p, z⟩ := I.list (SqL.of hH)
  refine PySem.SeqAt.count_list_data (vs := its.toArray) (xs := bs.map PyData.bool) (d := .bool b) (as := []) (bs := []) p.isList (by simpa using rd_bls r) (rd_flat (v := .bl b) rfl rfl) (plain_bls bs) rfl ?_ ?_
  · have d0 : PyData.depth (.bool b) = 0 := by simp [PyData.depth]
    have m := Nat.min_le_right (PyData.depthAll (bs.map PyData.bool)) (PyData.depth (.bool b))
    rw [d0] at m ⊢
    omega
  · rw [count_bls]
    exact ⟨.int _, H, I.tok _, ⟨_, rfl⟩, q⟩

/-! Kms: a method call whose errors are told at the caller's slots. -/
def tMethSt (C : Addr) (m : Str) (sp : Sp) (E : L2.St → XK) (ta : TE) (t : TA) : TE := fun σ H Q => ta σ H fun x H1 => ∃ a dx fs, x = .ref a ∧ H1 a = some (.ins C dx fs) ∧ fs.lookup m = none ∧
  t σ H1 fun vs H2 => sp (x :: (vs ++ [])) H2 Q (E σ)
section
variable {X : Cx} {o e : Expr} {es : List Expr} {C : Addr} {m : Str} {ps : List Str} {k : Nat} {sp : Sp} {E : L2.St → XK} {ta : TE} {t : TA} {apos pos : Pos}
theorem pe_methDS {pl : Sem Bool} (D : MethOk X.prog X.w X.K X.mg X.base k C m ps sp) (c : Cls X.K C) (hr : Room k X.A) (hx : ∀ σ, PassesAt (L2.CX X.prog X.w) X σ (E σ)) (he : PE X o ta) (ha : PA X (e :: es) t)
    (hst : starEach (e :: es) X.env = (false, eval e X.env) :: starEach es X.env := by rfl) (hpl : (backTo pos (starEach es X.env)).any (·.1) = false := by rfl)
    (ht : eval (.Call (.Attribute o m apos) (e :: es) [] pos) X.env = (do
      let ov ← eval o X.env
      standAt apos.atName
      let (f, first) ← holding [ov] (getMethod ov m pl)
      callWith pos f first (backTo pos (starEach (e :: es) X.env)) (backToKw pos (keywordEach [] X.env))) := by rfl) :
    PE X (.Call (.Attribute o m apos) (e :: es) [] pos) (tMethSt C m sp E ta t) := by
  obtain ⟨f, fd, F, hm, hb⟩ := D.ex
  refine ⟨fun pins s σ H Q I h => ?_⟩
  refine PySem.W.methodCall_KW (pl := pl) (thn (he.run pins s σ H _ I h) fun u s1 ⟨x, H1, I1, rx, a, dx, fs, ex, ea, l, q⟩ => ?_) ht
  subst ex
  obtain rfl : u = Value.ref a := rx
  refine getmeth_ok I1 ea c hm l ?_
  refine PySem.W.callWith_K (first := [.ref a]) (h₀ := X.base) I.ok.mod.kin hm.kp (thn (ha.run pos pins s1 σ H1 _ I1 q) fun us s2 ⟨vs, H2, I2, r, q2⟩ => ⟨I2.kIn, ?_⟩) hst hpl
  exact run_fnSD (us := .ref a :: us) (vs := .ref a :: vs) F hr hb .nil (hx σ) I2 (.cons rfl r) q2
end
theorem w_methSt {C : Addr} {m : Str} {sp : Sp} {E : L2.St → XK} {ta : TE} {t : TA} {σ : L2.St} {H : Hp} {Q : VK} (h : ta σ H fun x H1 => ∃ a dx fs, x = .ref a ∧ H1 a = some (.ins C dx fs) ∧ fs.lookup m = none ∧
  t σ H1 fun vs H2 => sp (x :: (vs ++ [])) H2 Q (E σ)) : tMethSt C m sp E ta t σ H Q := h

/-! Kq: errors with an __init__ of their own: made, raised, caught and kept, their attribute read, isinstance of them. -/
/-- the base class's __init__, by the class's name -/
structure BasF (K : PySem.W.Frag) (mg : Str → Option Value) (n : Str) (B : Addr) : Prop where
  g : mg n = some (.ref B)
  ga : PySem.W.specialIn K (.ref B) "__getattribute__" = some (some (.builtin "type.__getattribute__"))
  rd : PySem.W.readsIn K B (.type "type") = true
  fi : PySem.W.findCls K (.ref B) (.type "type") "__init__" = some (.val (.builtin "ValueError.__init__"))
structure OexF (K : PySem.W.Frag) (mg : Str → Option Value) (n : Str) (C : Addr) : Prop where
  g : mg n = some (.ref C)
  T : OexC K C
section
variable {X : Cx} {x f : Str} {B C : Addr} {o e : Expr} {es : List Expr} {to te : TE} {ta : TA} {p p' p1 p2 pos pos2 : Pos}
theorem pe_cinit {pl : Sem Bool} (F : BasF X.K X.mg x B) (ha : PA X (e :: es) ta) (hg : Gl X x := by rfl) (hdb : (x == ("__debug__" : Str)) = false := by decide)
    (hc : eval (.Call (.Attribute (.Name x p1) "__init__" p2) (e :: es) [] pos) X.env = (do
      let ov ← eval (.Name x p1) X.env
      standAt p2.atName
      let (f, first) ← holding [ov] (getMethod ov "__init__" pl)
      callWith pos f first (backTo pos (starEach (e :: es) X.env)) (backToKw pos (keywordEach [] X.env))) := by rfl)
    (he : starEach (e :: es) X.env = (false, eval e X.env) :: starEach es X.env := by rfl) (hpl : (backTo pos (starEach es X.env)).any (·.1) = false := by rfl) :
    PE X (.Call (.Attribute (.Name x p1) "__init__" p2) (e :: es) [] pos) (tVeI X.K ta) := by
  refine ⟨fun pins s σ H Q I h => ?_⟩
  refine PySem.W.methodCall_KW (ld_glob I hg F.g ?_ hdb) hc
  refine PySem.W.method_cls I.kIn F.ga (PySem.W.cls_value I.kIn F.rd F.fi (by decide +kernel) ?_)
  show wpAny _ _ (callWith pos (Value.builtin "ValueError.__init__") [] (backTo pos (starEach (e :: es) X.env)) []) _ _ _
  refine PyProof.Rows.callWith_method1 (thn (ha.run pos pins _ σ H _ (I.tok _) h) fun us s1 ⟨vs, H1, I1, r1, a, C, ws, ev, hl, T, ea, q⟩ => ?_) he hpl
  subst ev
  obtain ⟨u0, ur, rfl⟩ : ∃ u0 ur, us = u0 :: ur := by
    cases r1 with
    | cons _ _ => exact ⟨_, _, rfl⟩
  cases r1 with
  | cons ra rw' =>
    cases (show u0 = Value.ref a from ra)
    have hz : ur.length ≤ sizeLine := by
      have z := Paired.length rw'
      have z2 : (sizeLine : Nat) = 16777216 := sizeLine_eq
      omega
    exact oinit_ok T I1 ea hz fun s' J => ⟨.non, H1, J, rfl, q⟩
theorem PS_imp {st : Stmt} {t u : TS} (h : PS X st t) (m : ∀ D σ H, u D σ H → t D σ H) : PS X st u := ⟨fun pins s σ H D I q => h.run pins s σ H D I (m D σ H q)⟩
/-- f"text{n}" -/
def tF2 (m : Str) (ta : TE) : TE := fun σ H Q => ta σ H fun x H1 => ∃ i : Int, x = .int i ∧ i.natAbs.log2 < 1920 ∧ Q (.str (m ++ toString i)) H1
theorem w_fs2 {m : Str} {ta : TE} {σ : L2.St} {H : Hp} {Q : VK} (h : ta σ H fun x H1 => ∃ i : Int, x = .int i ∧ i.natAbs.log2 < 1920 ∧ Q (.str (m ++ toString i)) H1) : tF2 m ta σ H Q := h
theorem pe_fs2 {e1 : Expr} {t1 : TE} {m : Str} {j : Nat} (h1 : PE X e1 t1) (hm : m.length ≤ 1000 := by decide) : PE X (.JoinedStr [.Constant (.str m) j p1, .FormattedValue e1 (-1) none p2] pos) (tF2 m t1) := by
  refine ⟨fun pins s σ H Q I q => (pe_joined (PJ.cons pe_str (PJ.cons (pe_fmt (pe_mid h1)) PJ.nil))).run pins s σ H Q I ?_⟩
  have hs : (sizeLine : Nat) = 16777216 := sizeLine_eq
  have le : ∀ {a b : Str}, (a ++ b).length = a.length + b.length := fun {a b} => len_app a b
  refine ⟨m, rfl, by rw [empty_app]; omega, ?_⟩
  rw [empty_app]
  refine ⟨_, q, fun x H1 ⟨i, ei, hi, q1⟩ => .inr ⟨i, ei, hi, toString i, rfl, ?_, q1⟩⟩
  have z := int_text_len_1921 hi
  have z2 : (toString i : Str).length ≤ 1921 := z
  rw [le]
  omega
/-- what such an __init__(self, n) promises: the number is stored -/
def sp_errI (C : Addr) (f : Str) : Sp := fun vs H Q _ => ∃ (a : Addr) (i : Int), vs = [.ref a, .int i] ∧ i.natAbs.log2 < 1000 ∧ H a = some (exo a C none) ∧
  ∀ d H', H d = none → H' a = some (exo a C (some d)) → H' d = some (exd d [(f, .int i)]) → (∀ b o, b ≠ a → H b = some o → H' b = some o) → Q .non H'
/-- raise C(n) -/
def tErrI (C : Addr) (f : Str) (W : WX) (t : TA) : TS := fun _ σ H => t σ H fun vs H1 => ∃ i : Int, vs = [.int i] ∧ i.natAbs.log2 < 1000 ∧ ∀ d H2, H1 d = none → Same H1 H2 → H2 d = some (.xd [(f, .int i)]) → W (.ref C) (some d) σ H2
theorem w_errI {C : Addr} {f : Str} {W : WX} {t : TA} {D : Ends} {σ : L2.St} {H : Hp} (h : t σ H fun vs H1 => ∃ i : Int, vs = [.int i] ∧ i.natAbs.log2 < 1000 ∧ ∀ d H2, H1 d = none → Same H1 H2 → H2 d = some (.xd [(f, .int i)]) → W (.ref C) (some d) σ H2) : tErrI C f W t D σ H := h
theorem ps_errI {k : Nat} {W : WX} {ps : List Str} (M : MethOk X.prog X.w X.K X.mg X.base k C "__init__" ps (sp_errI C f)) (F : OexF X.K X.mg x C) (hr : Room (k + 1) X.A) (tk : Takes X W) (ha : PA X (e :: es) ta) (hc : X.calm = true := by rfl) (hg : Gl X x := by rfl) (hdb : (x == ("__debug__" : Str)) = false := by decide)
    (he : starEach (e :: es) X.env = (false, eval e X.env) :: starEach es X.env := by rfl) (hpl : (backTo pos (starEach es X.env)).any (·.1) = false := by rfl) :
    PS X (.Raise (some (.Call (.Name x p) (e :: es) [] pos)) none pos2) (tErrI C f W ta) := by
  obtain ⟨fI, fd, G, Me, b⟩ := M.ex
  refine PS_imp (ps_raise hc tk (pmk_oex F.T Me.at_ (beq_iff_eq.mp Me.fn) G hr b .nil passL hg F.g (PA_mono ha) hdb he hpl)) fun D σ H h => ?_
  exact ⟨_, h, fun vs H1 q => by
    obtain ⟨i, rfl, hi, q⟩ := q
    refine ⟨by show 1 ≤ 1000; decide, fun a na => ⟨a, i, rfl, hi, upd_same, fun d H2 nd e1 e2 kp => ⟨rfl, d, _, e1, e2, ?_, ?_⟩⟩⟩
    · have nda : d ≠ a := fun z => by rw [z, upd_same] at nd; cases nd
      rw [upd_ne nda] at nd
      exact nd
    · have nda : d ≠ a := fun z => by rw [z, upd_same] at nd; cases nd
      rw [upd_ne nda] at nd
      refine q d _ nd (fun b o hb => ?_) upd_same
      have nba : b ≠ a := ne_of_none hb na
      rw [upd_ne (ne_of_none hb nd), del_ne nba]
      exact kp b o nba (by rw [upd_ne nba]; exact hb)⟩
end
/-! ### a kept error with a dict -/
def tXget (K : PySem.W.Frag) (f : Str) (te : TE) : TE := fun σ H Q => te σ H fun x H1 => ∃ (a C dd : Addr) (fs : List (Str × V)) (v : V), x = .ref a ∧ H1 a = some (exO (.ref C) (some dd) a) ∧ H1 dd = some (.xd fs) ∧ fs.lookup f = some v ∧ ExcC K C ∧ PySem.W.findIn K (.ref C) f = some none ∧ Q v H1
/-- the caught error's class fits: its dict there, or none -/
def DictAt (H : Hp) : Option Addr → Prop
  | none => True
  | some dd => ∃ fs, H dd = some (.xd fs)
def rIsiX (K : PySem.W.Frag) : List V → Hp → VK → Prop := fun xs H Q => ∃ (a C : Addr) (d : Option Addr) (c : V) (u : Value) (b : Bool), xs = [.ref a, c] ∧ H a = some (exO (.ref C) d a) ∧ DictAt H d ∧ ExcC K C ∧ ClsV c u ∧ PySem.W.kitOne K (.ref C) u = some b ∧ Q (.bl b) H
def rIsiXT (K : PySem.W.Frag) : List V → Hp → VK → Prop := fun xs H Q => ∃ (a C tp : Addr) (d : Option Addr) (cs : List V) (us : List Value) (b : Bool), xs = [.ref a, .ref tp] ∧ H tp = some (.tup cs) ∧ Paired ClsV cs us ∧ H a = some (exO (.ref C) d a) ∧ DictAt H d ∧ ExcC K C ∧ PySem.W.kitAny K (.ref C) us = some b ∧ Q (.bl b) H
section
variable {X : Cx} {K : PySem.W.Frag} {pins : List (Addr × Obj)} {σ : L2.St} {H : Hp} {s : Shared} {a C dd : Addr} {d : Option Addr} {fs : List (Str × V)}
theorem inst_at (I : Inv X pins σ H s) (e : H a = some (exO (.ref C) (some dd) a)) {od : Obj} (ho : s.heap.get? dd = some od) : ∃ ox, PySem.W.InstAt s.heap a ox C (some od) := by
  obtain ⟨⟨oe, vs, ga, z, hd⟩, _⟩ := (show ObjOk X.prog X.w H s.heap a (exO (.ref C) (some dd) a) from I.hok a _ e)
  exact ⟨oe, ga, z.1, by unfold PySem.W.notCls; rw [hd] <;> rfl, by rw [z.2]; exact ho⟩
theorem inst_any (I : Inv X pins σ H s) (e : H a = some (exO (.ref C) d a)) (hd : DictAt H d) : ∃ ox od, PySem.W.InstAt s.heap a ox C od := by
  cases d with
  | none =>
    obtain ⟨ox, J⟩ := inst_of I e
    exact ⟨ox, none, J⟩
  | some dd =>
    obtain ⟨fs, ed⟩ := hd
    have hx : ObjOk X.prog X.w H s.heap dd (.xd fs) := I.hok dd _ ed
    obtain ⟨mA, hns, hr⟩ := hx
    obtain ⟨od, es, ep, ho, _⟩ := hns
    obtain ⟨ox, J⟩ := inst_at I e ho
    exact ⟨ox, some od, J⟩
theorem pe_xget {e : Expr} {te : TE} {f : Str} {pos : Pos} (he : PE X e te) (hK : X.K = K := by rfl) (hb : attributeBase e f X.env (eval e X.env) = eval e X.env := by rfl) : PE X (.Attribute e f pos) (tXget K f te) := by
  subst hK
  refine ⟨fun pins s σ H Q I h => ?_⟩
  refine attr_of hb (thn (he.run pins s σ H _ I h) fun u s1 ⟨x, H1, I1, rx, a, C, dd, fs, v, ex, ea, ed, l, T, hno, q⟩ => ?_)
  subst ex
  cases (show u = Value.ref a from rx)
  have hx : ObjOk X.prog X.w H1 s1.heap dd (.xd fs) := I1.hok dd _ ed
  obtain ⟨mA, hns, hr⟩ := hx
  obtain ⟨od, ho, hl⟩ := lookIn_ns hns
  obtain ⟨u, hu, ru⟩ := RelO.some_of (v := v) (o := mA f) (by rw [← l]; exact hr f)
  obtain ⟨ox, J⟩ := inst_at I1 ea ho
  exact HandSPX.exc_get I1.kIn J T.hg T.hk T.hs (PySem.W.findObj_own T.hd hno rfl (by rw [hl, hu])) (handed_of ru) ⟨v, H1, I1.tok _, ru, q⟩
theorem kx_of {C x : Addr} {ox : Obj} {od : Option Obj} (ex : ExcC K C) : PySem.W.KitX K (.ref x) (.ref C) (fun h => PySem.W.InstAt h x ox C od) :=
  PySem.W.kitx_exc (by obtain ⟨cd, hc, _⟩ := PySem.W.any_some ex.hd; rw [hc]; rfl) ex.hg ex.hk ex.hs ex.ha ex.hn ex.ht ex.hm
theorem cr_isX (hK : X.K = K := by rfl) : CallR X (.builtin "isinstance") (rIsiX K) := by
  subst hK
  intro pins s σ H xs us Q I r h
  obtain ⟨a, C, d, cc, u, b, rfl, e, hd, ex, cl, kt, q⟩ := h
  obtain ⟨u1, u2, rfl, r1, r2⟩ := vals2 r
  have e2 := cl.eq r2
  subst e2
  cases (show u1 = Value.ref a from r1)
  obtain ⟨ox, od, J⟩ := inst_any I e hd
  exact PySem.W.kia_one (kx_of ex) I.kIn J kt (fun z => nomatch z) fun tk => ⟨.bl b, H, I.tok tk, rfl, q⟩
theorem cr_isXT (hK : X.K = K := by rfl) : CallR X (.builtin "isinstance") (rIsiXT K) := by
  subst hK
  intro pins s σ H xs us Q I r h
  obtain ⟨a, C, tp, d, cs, ws, b, rfl, hT, k, e, hd, ex, kt, q⟩ := h
  obtain ⟨u1, u2, rfl, r1, r2⟩ := vals2 r
  cases (show u2 = Value.ref tp from r2)
  cases (show u1 = Value.ref a from r1)
  obtain ⟨ox, od, J⟩ := inst_any I e hd
  obtain ⟨_, its, rv, o, h1, h2, n, h3⟩ := (show ObjOk X.prog X.w H s.heap tp (.tup cs) from I.hok tp _ hT)
  have e3 := ClsV.all k rv
  subst e3
  obtain ⟨oc, od', dt, sl⟩ := o
  simp only at h2 h3
  subst h2 h3
  exact PySem.W.kia_tup (kx_of ex) I.kIn J h1 kt (fun z => nomatch z) fun tk => ⟨.bl b, H, I.tok tk, rfl, q⟩
end
theorem w_xget {K : PySem.W.Frag} {f : Str} {te : TE} {σ : L2.St} {H : Hp} {Q : VK} (h : te σ H fun x H1 => ∃ (a C dd : Addr) (fs : List (Str × V)) (v : V), x = .ref a ∧ H1 a = some (exO (.ref C) (some dd) a) ∧ H1 dd = some (.xd fs) ∧ fs.lookup f = some v ∧ ExcC K C ∧ PySem.W.findIn K (.ref C) f = some none ∧ Q v H1) : tXget K f te σ H Q := h
theorem w_vei {K : PySem.W.Frag} {ta : TA} {σ : L2.St} {H : Hp} {Q : VK} (h : ta σ H fun vs H1 => ∃ (a C : Addr) (ws : List V), vs = .ref a :: ws ∧ ws.length ≤ 1000 ∧ OexC K C ∧ H1 a = some (exo a C none) ∧ Q .non H1) : tVeI K ta σ H Q := h
theorem w_ost {K : PySem.W.Frag} {f : Str} {to te : TE} {D : Ends} {σ : L2.St} {H : Hp} (h : te σ H fun y H1 => to σ H1 fun x H2 => ∃ a C : Addr, x = .ref a ∧ OexC K C ∧ PySem.W.findIn K (.ref C) f = some none ∧
  ((H2 a = some (exo a C none) ∧ ∀ dx, H2 dx = none → dx ≠ a → D.nx σ (upd (upd H2 dx (exd dx [(f, y)])) a (exo a C (some dx)))) ∨
    ∃ (dx : Addr) (fs : List (Str × V)), H2 a = some (exo a C (some dx)) ∧ H2 dx = some (exd dx fs) ∧ fs.length ≤ 900 ∧ D.nx σ (upd H2 dx (exd dx ((f, y) :: fs))))) : tOst K f to te D σ H := h

/-! Krs: text * number. -/
def repS (z : Str) (n : Nat) : Str := ⟨(List.replicate n z.cps).foldl (· ++ ·) #[]⟩
def rRepS : R2 := fun x y H Q => ∃ (z : Str) (n : Nat), x = .str z ∧ y = .int (n : Nat) ∧ 2 ≤ n ∧ 1 ≤ z.length ∧ z.length * n ≤ 1000000 ∧ Q (.str (repS z n)) H
theorem rep_toList : ∀ (l : List (Array Nat)) (a : Array Nat), (l.foldl (· ++ ·) a).toList = a.toList ++ (l.map Array.toList).flatten
  | [], a => by simp
  | b :: l, a => by
    rw [List.foldl_cons, rep_toList l, Array.toList_append, List.map_cons, List.flatten_cons, List.append_assoc]
theorem tl_repS (z : Str) (n : Nat) : tl (repS z n) = (List.replicate n (tl z)).flatten := by
  show (List.foldl (· ++ ·) #[] (List.replicate n z.cps)).toList = _
  rw [rep_toList, List.map_replicate]
  rfl
theorem tl_rep1 (c n : Nat) : tl (repS ⟨#[c]⟩ n) = List.replicate n c := by
  rw [tl_repS]
  show (List.replicate n [c]).flatten = _
  induction n with
  | zero => rfl
  | succ n ih => rw [List.replicate_succ, List.flatten_cons, ih, List.replicate_succ]; rfl
theorem op_repS {X : Cx} : OpR X (binaryOp .Mult) rRepS := by
  intro pins s σ H x y v u Q I rx ry h
  obtain ⟨z, n, rfl, rfl, hn, hz, hl, q⟩ := h
  obtain ⟨t, rfl⟩ := rx
  obtain ⟨t', rfl⟩ := ry
  have n1 : ¬ ((n : Int) < 1) := by omega
  have e1 : (((n : Int) == 1) || (z.length == 0)) = false := by
    rw [Bool.or_eq_false_iff]
    exact ⟨by simpa using (show ¬ ((n : Int) = 1) by omega), by simpa using (show ¬ (z.length = 0) by omega)⟩
  have n6 : n ≤ 1000000 := Nat.le_trans (Nat.le_mul_of_pos_left n hz) hl
  have z2 : (sizeLine : Nat) = 16777216 := sizeLine_eq
  have e2 : (n : Int).toNat = n := Int.toNat_natCast n
  refine PySem.P.mul_str ?_ (fun _ _ => ?_) (fun _ _ => ?_) ?_
  · rw [decide_eq_false (by omega), decide_eq_false (by omega)]; rfl
  · have : (z.length : Int) ≤ (2 ^ 63 - 1) / (n : Int) := by
      refine Int.le_ediv_of_mul_le (by omega) ?_
      have h2 : ((z.length * n : Nat) : Int) ≤ 1000000 := by omega
      rw [Int.natCast_mul] at h2
      omega
    omega
  · rw [e2]
    show decide (z.length * n > sizeLine) = false
    exact decide_eq_false (by omega)
  · rw [if_neg n1, if_neg (by rw [e1]; decide), e2]
    refine ⟨?_, ⟨.str (repS z n), H, I.tok _, ⟨_, rfl⟩, q⟩⟩
    have lz : (repS z n).length = n * z.length := by
      show (repS z n).cps.size = _
      rw [← Array.length_toList]
      show (tl (repS z n)).length = _
      rw [tl_repS, List.length_flatten, List.map_replicate, List.sum_replicate_nat]
      congr 1
    have : (repS z n).length ≤ sizeLine := by rw [lz, Nat.mul_comm]; omega
    first
      | exact this
      | (show decide ((repS z n).length > sizeLine) = false; exact decide_eq_false (by omega))

/-- the same, none or one as well -/
def rRepG : R2 := fun x y H Q => ∃ (z : Str) (n : Nat), x = .str z ∧ y = .int (n : Nat) ∧ 1 ≤ z.length ∧ z.length * n ≤ 1000000 ∧ Q (.str (repS z n)) H
theorem op_repG {X : Cx} : OpR X (binaryOp .Mult) rRepG := by
  intro pins s σ H x y v u Q I rx ry h
  obtain ⟨z, n, rfl, rfl, hz, hl, q⟩ := h
  by_cases c : 2 ≤ n
  · exact op_repS pins s σ H _ _ v u Q I rx ry ⟨z, n, rfl, rfl, c, hz, hl, q⟩
  · obtain ⟨t, rfl⟩ := rx
    obtain ⟨t', rfl⟩ := ry
    have hn : n = 0 ∨ n = 1 := by omega
    rcases hn with rfl | rfl
    · refine PySem.P.mul_str_none (by decide) (by decide) ?_
      exact ⟨.str Str.empty, H, I.tok _, ⟨_, rfl⟩, q⟩
    · have ez : repS z 1 = z := by
        show (⟨#[] ++ z.cps⟩ : Str) = z
        rw [Array.empty_append]
      rw [ez] at q
      refine PySem.P.mul_str (by decide) (fun _ h1 => by simp at h1) (fun _ h1 => by simp at h1) ?_
      rw [if_neg (by decide), if_pos (show (((1 : Nat) : Int) == 1 || z.length == 0) = true by rw [show (((1 : Nat) : Int) == 1) = true from rfl, Bool.true_or])]
      exact ⟨.str z, H, I.tok _, ⟨_, rfl⟩, q⟩
theorem w_repG {z : Str} {n : Nat} {H : Hp} {Q : VK} (hz : 1 ≤ z.length) (hl : z.length * n ≤ 1000000) (q : Q (.str (repS z n)) H) : rRepG (.str z) (.int (n : Nat)) H Q := ⟨z, n, rfl, rfl, hz, hl, q⟩

/-! Kpt: two tuples of two numbers, a dict of texts, a tuple of texts, compared. -/
theorem strs_eqv : ∀ {xs ys : List Str}, (((List.range (min xs.length ys.length)).all fun j => decide (xs[j]? = ys[j]?)) && xs.length == ys.length) = decide (xs = ys) := fun {xs ys} => by
  rw [Bool.eq_iff_iff, Bool.and_eq_true, decide_eq_true_iff, List.all_eq_true, beq_iff_eq]
  constructor
  · rintro ⟨h1, h2⟩
    refine List.ext_getElem? fun i => ?_
    by_cases hi : i < xs.length
    · exact of_decide_eq_true (h1 i (List.mem_range.mpr (by omega)))
    · rw [List.getElem?_eq_none (by omega), List.getElem?_eq_none (by omega)]
  · rintro rfl
    exact ⟨fun i _ => decide_eq_true rfl, rfl⟩
def rEqP : R2 := fun x y H Q => ∃ (a b d1 d2 t1 t2 : Addr) (r1 h1 r2 h2 : Int) (ws vs : List (Str × Str)) (xs ys : List Str), x = .ref a ∧ y = .ref b ∧ H a = some (.tup [.int r1, .int h1, .ref d1, .ref t1]) ∧ H b = some (.tup [.int r2, .int h2, .ref d2, .ref t2]) ∧
  H d1 = some (.dK (wd ws)) ∧ H d2 = some (.dK (wd vs)) ∧ d1 ≠ d2 ∧ H t1 = some (.tup (xs.map V.str)) ∧ H t2 = some (.tup (ys.map V.str)) ∧ t1 ≠ t2 ∧ Q (.bl (decide (r1 = r2) && decide (h1 = h2) && eqKV (wd ws) (wd vs) && decide (xs = ys))) H
theorem vals_strs : ∀ {xs : List Str} {us : List Value}, Vals (xs.map V.str) us → ∀ (j : Nat) (x : Str), xs[j]? = some x → ∃ t, us[j]? = some (.str x t)
  | [], _, _, j, x, h => by simp at h
  | a :: xs, _, .cons r rr, 0, x, h => by
    cases h
    obtain ⟨t, rfl⟩ := r
    exact ⟨t, rfl⟩
  | a :: xs, _, .cons r rr, j + 1, x, h => by
    obtain ⟨t, e⟩ := vals_strs rr j x h
    exact ⟨t, e⟩
theorem op_eqP {X : Cx} (hu : X.A.units + 64 < cLine) : OpR X (compareOp .Eq) rEqP := by
  intro pins s σ H x y v u Q I rx ry h
  obtain ⟨a, b, d1, d2, t1, t2, r1, h1, r2, h2, ws, vs, xs, ys, rfl, rfl, ea, eb, e1, e2, nd, f1, f2, nt, q⟩ := h
  obtain rfl : v = Value.ref a := rx
  obtain rfl : u = Value.ref b := ry
  obtain ⟨ia, va, pa, _⟩ := I.tuple (X := X) (.inl (.inl ea))
  obtain ⟨ib, vb, pb, _⟩ := I.tuple (X := X) (.inl (.inl eb))
  obtain ⟨i1, v1, p1, _⟩ := I.tuple (X := X) (.inl (.inl f1))
  obtain ⟨i2, v2, p2, _⟩ := I.tuple (X := X) (.inl (.inl f2))
  obtain ⟨_, ya, wa, ra, da⟩ := I.hok d1 _ e1
  obtain ⟨_, yb, wb, rb, db⟩ := I.hok d2 _ e2
  cases va with
  | cons g1 va =>
  cases va with
  | cons g2 va =>
  cases va with
  | cons g3 va =>
  cases va with
  | cons g4 va =>
  cases va
  obtain ⟨k1, rfl⟩ := g1
  obtain ⟨k2, rfl⟩ := g2
  cases g3
  cases g4
  cases vb with
  | cons g1 vb =>
  cases vb with
  | cons g2 vb =>
  cases vb with
  | cons g3 vb =>
  cases vb with
  | cons g4 vb =>
  cases vb
  obtain ⟨k3, rfl⟩ := g1
  obtain ⟨k4, rfl⟩ := g2
  cases g3
  cases g4
  have zs : ∀ (us : List (Str × Str)), ∀ p ∈ wd us, isS p.2 = true := fun us p hp => by
    obtain ⟨q, _, rfl⟩ := List.mem_map.mp hp
    rfl
  have hd : SeqAt.EqIn X.prog X.w X.A.in1 s (.ref d1) (.ref d2) (eqKV (wd ws) (wd vs)) := SeqAt.EqIn.of_refs nd fun E Q' hq => by
    refine PySem.W.keq_eq (knd := mixKind X.prog X.w) (r := hitsB (wd vs) (wd ws)) ya yb da db (by show X.A.units + 1 < cLine; omega) (fun _ => hits_B rb (zs vs) ra (zs ws)) ?_
    rw [← ra.length, ← rb.length]
    exact hq
  have l1 := v1.length
  have l2 := v2.length
  rw [List.length_map] at l1 l2
  have ht : SeqAt.EqIn X.prog X.w X.A.in1 s (.ref t1) (.ref t2) (decide (xs = ys)) := by
    have h := SeqAt.RcAt.tuples (A := X.A.in1) (s := s) (l := t1) (b := t2) (items := i1.toArray) (items2 := i2.toArray) (e := fun j => decide (xs[j]? = ys[j]?)) p1 p2 (by show X.A.units + 1 < cLine; omega) (fun j hj1 hj2 => by
      have hx : j < xs.length := by rw [List.size_toArray] at hj1; omega
      have hy : j < ys.length := by rw [List.size_toArray] at hj2; omega
      obtain ⟨t, et⟩ := vals_strs v1 j xs[j] (by simp [hx])
      obtain ⟨t', et'⟩ := vals_strs v2 j ys[j] (by simp [hy])
      have q1 : i1.toArray[j] = .str xs[j] t := by
        have := et
        rw [List.getElem?_eq_getElem (by omega)] at this
        simpa using Option.some.inj this
      have q2 : i2.toArray[j] = .str ys[j] t' := by
        have := et'
        rw [List.getElem?_eq_getElem (by omega)] at this
        simpa using Option.some.inj this
      rw [q1, q2, show decide (xs[j]? = ys[j]?) = (xs[j] == ys[j]) by
        rw [List.getElem?_eq_getElem hx, List.getElem?_eq_getElem hy, Bool.eq_iff_iff, decide_eq_true_iff, beq_iff_eq]
        exact ⟨fun z => Option.some.inj z, fun z => by rw [z]⟩]
      exact SeqAt.EqAt.str_str _ _ _ _)
    have e : ((List.range (min i1.toArray.size i2.toArray.size)).all (fun j => decide (xs[j]? = ys[j]?)) && i1.toArray.size == i2.toArray.size) = decide (xs = ys) := by
      rw [List.size_toArray, List.size_toArray, ← l1, ← l2]
      exact strs_eqv
    rw [e] at h
    exact (SeqAt.EqAt.of_refs nt h).inModel X.prog X.w
  refine SeqAt.rcIn_tuples (prog := X.prog) (w := X.w) (e := fun j => match j with | 0 => (r1 == r2) | 1 => (h1 == h2) | 2 => eqKV (wd ws) (wd vs) | _ => decide (xs = ys)) pa pb (by omega) (fun j hj1 hj2 => ?_) ?_
  · have : j = 0 ∨ j = 1 ∨ j = 2 ∨ j = 3 := by
      have : j < 4 := hj1
      omega
    rcases this with rfl | rfl | rfl | rfl
    · exact (SeqAt.EqAt.int_int _ _ _ _).inModel X.prog X.w
    · exact (SeqAt.EqAt.int_int _ _ _ _).inModel X.prog X.w
    · exact hd
    · exact ht
  · have e : ((List.range (min ([Value.int r1 k1, .int h1 k2, .ref d1, .ref t1] : List Value).toArray.size ([Value.int r2 k3, .int h2 k4, .ref d2, .ref t2] : List Value).toArray.size)).all (fun j => match j with | 0 => (r1 == r2) | 1 => (h1 == h2) | 2 => eqKV (wd ws) (wd vs) | _ => decide (xs = ys)) && ([Value.int r1 k1, .int h1 k2, .ref d1, .ref t1] : List Value).toArray.size == ([Value.int r2 k3, .int h2 k4, .ref d2, .ref t2] : List Value).toArray.size) = (decide (r1 = r2) && decide (h1 = h2) && eqKV (wd ws) (wd vs) && decide (xs = ys)) := by
      show ((r1 == r2) && ((h1 == h2) && (eqKV (wd ws) (wd vs) && (decide (xs = ys) && true))) && true) = _
      rw [show (r1 == r2) = decide (r1 = r2) from rfl, show (h1 == h2) = decide (h1 = h2) from rfl]
      cases decide (r1 = r2) <;> cases decide (h1 = h2) <;> cases eqKV (wd ws) (wd vs) <;> cases decide (xs = ys) <;> rfl
    rw [e]
    exact ⟨.bl _, H, I, rfl, q⟩
theorem w_eqP {a b d1 d2 t1 t2 : Addr} {r1 h1 r2 h2 : Int} {ws vs : List (Str × Str)} {xs ys : List Str} {H : Hp} {Q : VK} (ea : H a = some (.tup [.int r1, .int h1, .ref d1, .ref t1])) (eb : H b = some (.tup [.int r2, .int h2, .ref d2, .ref t2]))
    (e1 : H d1 = some (.dK (wd ws))) (e2 : H d2 = some (.dK (wd vs))) (nd : d1 ≠ d2) (f1 : H t1 = some (.tup (xs.map V.str))) (f2 : H t2 = some (.tup (ys.map V.str))) (nt : t1 ≠ t2) (q : Q (.bl (decide (r1 = r2) && decide (h1 = h2) && eqKV (wd ws) (wd vs) && decide (xs = ys))) H) : rEqP (.ref a) (.ref b) H Q :=
  ⟨a, b, d1, d2, t1, t2, r1, h1, r2, h2, ws, vs, xs, ys, rfl, rfl, ea, eb, e1, e2, nd, f1, f2, nt, q⟩

/-! Kst: list(text), sorted(text). -/
def chS (x : Str) : List Str := x.cps.toList.map fun c => ⟨#[c]⟩
theorem ch_len (x : Str) : (chS x).length = x.length := by simp [chS, Str.length]
theorem sign_vals {x : Str} {acc : Array Value} (h : ItemsOf (SignAt x) acc x.cps.size) : StrsAre acc.toList (chS x) ∧ Vals ((chS x).map V.str) acc.toList := by
  obtain ⟨h1, h2⟩ := h
  have key : ∀ (l : List Nat) (vs : List Value), vs.length = l.length → (∀ (j : Nat) (v : Value), vs[j]? = some v → ∃ (c : Nat) (u : Tok), l[j]? = some c ∧ v = Value.str ⟨#[c]⟩ u) → StrsAre vs (l.map fun c => (⟨#[c]⟩ : Str)) := by
    intro l
    induction l with
    | nil =>
      intro vs hl _
      cases vs with
      | nil => exact .nil
      | cons v vs => simp at hl
    | cons c l ih =>
      intro vs hl hv
      cases vs with
      | nil => simp at hl
      | cons v vs =>
        obtain ⟨c', u, e1, rfl⟩ := hv 0 v rfl
        have e1' : c = c' := Option.some.inj e1
        subst e1'
        exact .cons _ _ (ih vs (by simpa using hl) fun j v e => hv (j + 1) v e)
  have z := key x.cps.toList acc.toList (by simpa using h1) fun j v e => by
    obtain ⟨c, u, e1, e2⟩ := h2 j v (by simpa using e)
    exact ⟨c, u, by simpa using e1, e2⟩
  exact ⟨z, vals_of_strs z⟩
section
variable {prog : Program} {w : World} {A : Around} {E : Value → Shared → Prop} {s : Shared}
theorem sorted_text {x : Str} {t : Tok} {Q : Value → Shared → Prop} (hh : A.in1.handled = none) (hn : x.cps.size ≤ sizeLine)
    (h : ∀ h' tk (out : Array Value) (ys : List Str) a e, (∀ b o, s.heap.get? b = some o → h'.get? b = some o) → s.heap.get? a = none → (∀ H, HOk prog w H s.heap → H a = none) → h'.get? a = some (seqObj "list" out e) → StrsAre out.toList ys → ys.Perm (chS x) → sortedS ys = true → Q (.ref a) { s with heap := h', toks := tk }) :
    wpAny (model prog w) A (call (.builtin "sorted") [.str x t]) Q E s := by
  refine Calls.call_function_entry PyProof.Rows.kind_sorted PyProof.Rows.plain_sorted PyProof.Rows.entry_sorted (PyProof.Rows.args_sorted1 _) ?_
  unfold Builtin.«sorted»
  refine wpAny_bind (m := checkCount "sorted" 1 1 _) (wpAny_pure ?_)
  refine wpAny_bind (wpAny_collect_str hh x t (hn := hn) fun s' acc hk hg hd ho hacc => ?_)
  obtain ⟨hp, g, d, tk0, os⟩ := s'
  obtain rfl : g = s.gens := hg
  obtain rfl : d = s.drawn := hd
  obtain rfl : os = s.os := ho
  replace hk : ∀ b o, s.heap.get? b = some o → hp.get? b = some o := hk
  obtain ⟨hS, _⟩ := sign_vals hacc
  have hL : acc.toList.length ≤ sizeLine := by rw [Array.length_toList, hacc.1]; exact hn
  refine wpAny_bind (wpAny_newList (hsz := hL) ?_)
  have hoL : (hp.push (seqObj "list" acc.toList.toArray 0)).get? hp.objs.size = some (seqObj "list" acc.toList.toArray 0) := Heap.get?_push_size _ rfl
  change wpAny _ _ _ _ _ { s with heap := hp.push (seqObj "list" acc.toList.toArray 0), toks := tk0 }
  refine wpAny_bind (wpAny_holding (wpAny_call_entry PyProof.Rows.slot_list_sort ⟨_, hoL, rfl⟩ PyProof.Rows.entry_list_sort (PyProof.Rows.list_sort_treeKAny PyProof.Rows.strKind_oneLt hoL hS.keysOf (fun v₁ v₂ rest e => PyProof.Rows.keyKind_strs (by rw [← e]; exact hS)) hL fun st' a1 a2 => ⟨_, rfl, ?_⟩) (PyProof.Rows.args_list_sort _)))
  obtain ⟨ys, h1, h2, h3⟩ := PyProof.Rows.sorted_out_str hS a1 a2
  obtain ⟨e, he⟩ := PyProof.Rows.sortedHeap_at (vs := acc.toList) (out := (PyProof.Rows.arrOf st').map (·.2)) hoL
  have hf : s.heap.get? hp.objs.size = none := by
    cases q : s.heap.get? hp.objs.size with
    | none => rfl
    | some o => exact absurd (Heap.lt_size (hk _ _ q)) (Nat.lt_irrefl _)
  refine wpAny_pure ⟨_, rfl, h _ _ _ ys _ e (fun b o hb => ?_) hf (fun H k => (k.kept hk).fresh (Nat.le_refl _)) he h1 h2 h3⟩
  have hb2 := hk b o hb
  rw [PyProof.Rows.sortedHeap_old (Nat.ne_of_lt (Heap.lt_size hb2)) (by rw [size_push']; exact Nat.lt_succ_of_lt (Heap.lt_size hb2)), Heap.get?_push_ne _ _ _ (Nat.ne_of_lt (Heap.lt_size hb2))]
  exact hb2
end
def rListTx : List V → Hp → VK → Prop := fun vs H Q => ∃ x : Str, vs = [.str x] ∧ x.length ≤ 1000000 ∧ New (.lst ((chS x).map V.str)) H Q
def rSortTx : List V → Hp → VK → Prop := fun vs H Q => ∃ x : Str, vs = [.str x] ∧ x.length ≤ 1000000 ∧ ∀ ys : List Str, ys.Perm (chS x) → sortedS ys = true → New (.lst (ys.map V.str)) H Q
section
variable {X : Cx}
theorem cr_listTx (hc : X.calm = true) : CallR X (.type "list") rListTx := by
  intro pins s σ H vs us Q I r h
  obtain ⟨x, rfl, hz, q⟩ := h
  have h2 : (sizeLine : Nat) = 16777216 := sizeLine_eq
  have lx : x.cps.size = x.length := rfl
  cases r with
  | cons r rr =>
    cases rr
    obtain ⟨t, rfl⟩ := r
    refine call_list_str (I.ok.hd hc) x t (hn := by omega) fun h' tk acc c hk hS hacc => ?_
    obtain ⟨_, va⟩ := sign_vals hacc
    exact ⟨.ref _, upd H s.heap.objs.size (.lst ((chS x).map V.str)), I.laid (t' := tk) hk (Nat.le_refl _) ⟨by rw [List.length_map, ch_len]; omega, acc.toList, c, va, by rw [Array.toArray_toList]; exact hS⟩, rfl, q.go (I.hok.fresh (Nat.le_refl _))⟩
theorem cr_sortTx (hc : X.calm = true) : CallR X (.builtin "sorted") rSortTx := by
  intro pins s σ H vs us Q I r h
  obtain ⟨x, rfl, hz, q⟩ := h
  have h2 : (sizeLine : Nat) = 16777216 := sizeLine_eq
  have lx : x.cps.size = x.length := rfl
  cases r with
  | cons r rr =>
    cases rr
    obtain ⟨t, rfl⟩ := r
    refine sorted_text (I.ok.hd hc) (by omega) fun h' tk out ys a e hk hf hn he h1 h2' h3 => ?_
    have nH := hn H I.hok
    exact ⟨.ref _, upd H a (.lst (ys.map V.str)), I.laidN (t' := tk) hk hf nH ⟨by rw [List.length_map, h2'.length_eq, ch_len]; omega, out.toList, e, vals_of_strs h1, by rw [Array.toArray_toList]; exact he⟩, rfl, (q ys h2' h3).go nH⟩
end
theorem w_listTx {H : Hp} {Q : VK} {x : Str} (hz : x.length ≤ 1000000) (h : New (.lst ((chS x).map V.str)) H Q) : rListTx [.str x] H Q := ⟨x, rfl, hz, h⟩
theorem w_sortTx {H : Hp} {Q : VK} {x : Str} (hz : x.length ≤ 1000000) (h : ∀ ys : List Str, ys.Perm (chS x) → sortedS ys = true → New (.lst (ys.map V.str)) H Q) : rSortTx [.str x] H Q := ⟨x, rfl, hz, h⟩
theorem ip_addS {X : Cx} : PIp X .Add rAddS := fun pins s σ H x y u v Q I rx ry h => iop_add_str pins s σ H x y u v Q I rx ry h
section
variable {td ty tx : TE} {σ : L2.St} {H : Hp} {Q : VK}
theorem w_dget1 (h : td σ H fun x H1 => ∃ a, x = .ref a ∧ IsD H1 a ∧ ty σ H1 fun y H2 => ∃ o, DGet H2 a y o ∧ Q (o.getD .non) H2) : tDGet1 td ty σ H Q := h
theorem w_dget2 (h : td σ H fun x H1 => ∃ a, x = .ref a ∧ IsD H1 a ∧ ty σ H1 fun y H2 => tx σ H2 fun z H3 => ∃ o, DGet H3 a y o ∧ Q (o.getD z) H3) : tDGet2 td ty tx σ H Q := h
end

/-! Krt: tuple[::-1]; str(d), d data as it stands. -/
section
variable {prog : Program} {w : World} {A : Around} {E : Value → Shared → Prop} {s : Shared}
theorem adjust_rev (n : Nat) : Builtin.Slice.sliceAdjust none none (-1) (n : Int) = ((n : Int) - 1, -1) := by
  unfold Builtin.Slice.sliceAdjust
  simp
theorem places_rev (n : Nat) : Builtin.Slice.slicePlaces ((n : Int) - 1) (-1) (-1) = n := by
  unfold Builtin.Slice.slicePlaces
  simp
  try omega
theorem sliceApplied_rev {sl : Addr} {vl vu vs : Value} {n : Nat} {Q : Int × Int × Nat → Shared → Prop} (hs : s.heap.IsSliceOf sl vl vu vs) (pl : IsPart vl none) (pu : IsPart vu none) (ps : IsPart vs (some (-1)))
    (h : Q ((n : Int) - 1, -1, n) s) : wpAny (model prog w) A (Builtin.Slice.sliceApplied (.ref sl) (pure (n : Int))) Q E s := by
  obtain ⟨os, hos, hcs, hds⟩ := id hs
  unfold Builtin.Slice.sliceApplied Builtin.Slice.sliceFields
  refine wpAny_bind (wpAny_bind (wpAny_field hos hds (x := vl) rfl (wpAny_bind (wpAny_field hos hds (x := vu) rfl (wpAny_bind (wpAny_field hos hds (x := vs) rfl (wpAny_pure ?_)))))))
  refine wpAny_bind (HT.slicePart_ ps ?_)
  show wpAny _ _ (if ((-1 : Int) == 0) = true then _ else _) _ _ s
  rw [if_neg (by decide)]
  refine wpAny_bind (HT.slicePart_ pl (wpAny_bind (HT.slicePart_ pu (wpAny_bind (wpAny_pure ?_)))))
  show wpAny _ _ (match Builtin.Slice.sliceAdjust none none (-1) (n : Int) with | (lo, hi) => pure (lo, (-1 : Int), Builtin.Slice.slicePlaces lo hi (-1))) _ _ s
  rw [adjust_rev n]
  show wpAny _ _ (pure ((n : Int) - 1, (-1 : Int), Builtin.Slice.slicePlaces ((n : Int) - 1) (-1) (-1))) _ _ s
  rw [places_rev]
  exact wpAny_pure h
theorem pick_rev (xs : Array Value) : ((List.range xs.size).filterMap fun (m : Nat) => xs[(((xs.size : Nat) : Int) - 1 + (m : Int) * (-1)).toNat]?).toArray = xs.toList.reverse.toArray := by
  congr 1
  have e : ∀ m ∈ List.range xs.size, xs[(((xs.size : Nat) : Int) - 1 + (m : Int) * (-1)).toNat]? = (xs.toList.reverse)[m]? := fun m hm => by
    have := List.mem_range.mp hm
    rw [List.getElem?_reverse (by simpa using this), Array.getElem?_toList, Array.length_toList]
    congr 1
    omega
  have e2 : ((List.range xs.size).filterMap fun (m : Nat) => xs[(((xs.size : Nat) : Int) - 1 + (m : Int) * (-1)).toNat]?) = (List.range xs.size).filterMap fun m => (xs.toList.reverse)[m]? := by
    have go2 : ∀ (ms : List Nat) (f g : Nat → Option Value), (∀ m ∈ ms, f m = g m) → ms.filterMap f = ms.filterMap g := fun ms f g h => by
      induction ms with
      | nil => rfl
      | cons m ms ih =>
        rw [List.filterMap_cons, List.filterMap_cons, h m List.mem_cons_self, ih fun x hx => h x (List.mem_cons_of_mem _ hx)]
    exact go2 _ _ _ fun m hm => e m hm
  rw [e2]
  have go : ∀ (l : List Value), ((List.range l.length).filterMap fun m => l[m]?) = l := fun l => by
    induction l with
    | nil => rfl
    | cons a l ih =>
      rw [List.length_cons, List.range_succ_eq_map, List.filterMap_cons, List.filterMap_map]
      show a :: _ = _
      congr 1
  have := go xs.toList.reverse
  rw [List.length_reverse, Array.length_toList] at this
  exact this
theorem getItem_tuple_rev {t sl : Addr} {items : Array Value} {vl vu vs : Value} {Q : Value → Shared → Prop} (ht : PyProof.Rows.IsTup s.heap t items) (hs : s.heap.IsSliceOf sl vl vu vs) (pl : IsPart vl none) (pu : IsPart vu none) (ps : IsPart vs (some (-1)))
    (h : Q (.ref s.heap.objs.size) { s with heap := s.heap.push { cls := .type "tuple", data := .seq items.toList.reverse.toArray } })
    (hsz : items.size ≤ sizeLine) : wpAny (model prog w) A (getItem (.ref t) (.ref sl)) Q E s := by
  have htake : sizeOk (.seq items.toList.reverse.toArray) := by
    show items.toList.reverse.toArray.size ≤ sizeLine
    rw [List.size_toArray, List.length_reverse, Array.length_toList]
    exact hsz
  obtain ⟨os, hos, hcs, hds⟩ := id hs
  have hTs : s.TypeIs (.ref sl) "slice" := ⟨os, hos, hcs⟩
  unfold getItem
  try with_reducible refine wpAny_holding ?_
  first | refine wpAny_bind (wpAny_pure ?_) | skip
  refine wpAny_bind (wpAny_sequenceKey ht.typeIs (by decide) ?_)
  refine wpAny_bind (wpAny_callSpecial?_slot (name := Str.ofString "__getitem__") ht.typeIs PyProof.Rows.slot_tuple_getitem
    (wpAny_call_entry PyProof.Rows.slot_tuple_getitem ht.typeIs PyProof.Rows.entry_tuple_getitem ?_ (PyProof.Rows.args_tuple_getitem _ _)))
  show wpAny _ _ (Builtin.Tuple.tupleItemsOf (.ref t) >>= _) _ _ s
  refine wpAny_bind (PyProof.Rows.tupleItemsOf_ ht ?_)
  refine wpAny_bind (wpAny_typeOf hTs ?_)
  rw [if_pos (by decide)]
  refine wpAny_bind (sliceApplied_rev hs pl pu ps ?_)
  have hno : ¬ (((((items.size : Nat) : Int) - 1) == 0 && (-1 : Int) == 1 && items.size == items.size) = true) := by simp
  show wpAny _ _ (if ((((items.size : Nat) : Int) - 1) == 0 && (-1 : Int) == 1 && items.size == items.size) = true then _ else _) _ _ s
  rw [if_neg hno, pick_rev]
  first
    | exact wpAny_bind (m := Builtin.Tuple.tupleExact _) (wpAny_newObj_type (wpAny_pure ⟨_, rfl, wpAny_pure h⟩) htake)
    | exact wpAny_bind (m := Builtin.Tuple.tupleExact _) (wpAny_newObj_type (wpAny_bind (wpAny_pure (wpAny_pure ⟨_, rfl, wpAny_pure h⟩))) htake)
    | exact wpAny_bind (wpAny_bind (m := Builtin.Tuple.tupleExact _) (wpAny_newObj_type (wpAny_pure (wpAny_pure ⟨_, rfl, wpAny_pure h⟩)) htake))
    | exact wpAny_bind (wpAny_bind (m := Builtin.Tuple.tupleExact _) (wpAny_newObj_type (wpAny_pure ⟨_, rfl, wpAny_pure h⟩) htake))
end
def tRevT (K : PySem.W.Frag) (te : TE) : TE := fun σ H Q => te σ H fun x H1 => ∃ a xs, x = .ref a ∧ SqT K H1 a xs ∧ New (.tup xs.reverse) H1 Q
theorem pe_revT {X : Cx} {K : PySem.W.Frag} {e : Expr} {te : TE} {k : Nat} {p1 p2 p3 pos : Pos} (he : PE X e te) (hK : X.K = K := by rfl) : PE X (.Subscript e (.Slice none none (some (.UnaryOp .USub (.Constant (.int 1) k p1) p2)) p3) pos) (tRevT K te) := by
  subst hK
  refine ⟨fun pins s σ H Q I h => ?_⟩
  refine Subscript_ (thn (he.run pins s σ H _ I h) fun v s1 ⟨x, H1, I1, r1, q1⟩ => ?_)
  obtain ⟨a, xs, ex, hx, q⟩ := q1
  subst ex
  cases r1
  have hst : PO X (some (.UnaryOp .USub (.Constant (.int 1) k p1) p2)) (tPart (tUn (rU fun i => .int (-i)) (tC (.int 1)))) := po_some (pe_un un_neg pe_int)
  refine wpAny_Slice (thn (po_none.run pins s1 σ H1 (fun o H2 => o = none ∧ H2 = H1) I1 ⟨rfl, rfl⟩) fun vl s2 ⟨l, H2, I2, pl, el, e2⟩ => ?_)
  subst el e2
  refine thn (po_none.run pins s2 σ H2 (fun o H3 => o = none ∧ H3 = H2) I2 ⟨rfl, rfl⟩) fun vu s3 ⟨u, H3, I3, pu, eu, e3⟩ => ?_
  subst eu e3
  refine thn (hst.run pins s3 σ H3 (fun o H4 => o = some (-1) ∧ H4 = H3) I3 ⟨1, rfl, -1, rfl, rfl, rfl⟩) fun vs s4 ⟨o, H4, I4, ps, eo, e4⟩ => ?_
  subst eo e4
  have I5 : Inv X pins σ H4 { s4 with heap := s4.heap.push { cls := .type "slice", data := .fields #[vl, vu, vs] } } := I4.kept (t' := s4.toks) fun b ob q => Heap.get?_push_of_some _ q
  obtain ⟨its, r, ht, hz⟩ := I5.tuple hx
  have hlen := r.length
  refine tail_any (ops := [.ref a, .ref s4.heap.objs.size]) ht.typeIs (PyProof.Rows.slot_tuple_getitem.lookup) ?_ (by with_unfolding_all rfl)
  refine getItem_tuple_rev ht (Heap.IsSliceOf.new _ vl vu vs) pl pu ps ?_ (by rw [List.size_toArray]; omega)
  have f := I5.hok.fresh (Nat.le_refl _)
  refine ⟨.ref _, _, I5.laid (t' := s4.toks) (o := .tup xs.reverse) (fun b ob q => Heap.get?_push_of_some _ q) (Nat.le_refl _) ?_, rfl, q.go f⟩
  exact ⟨by rw [List.length_reverse]; exact hz, _, r.reverse, PyProof.Rows.IsTup.new _ _⟩
theorem w_revT {K : PySem.W.Frag} {te : TE} {σ : L2.St} {H : Hp} {Q : VK} (h : te σ H fun x H1 => ∃ a xs, x = .ref a ∧ SqT K H1 a xs ∧ New (.tup xs.reverse) H1 Q) : tRevT K te σ H Q := h
section
variable {prog : Program} {w : World} {A : Around} {E : Value → Shared → Prop} {s : Shared} {Q : Value → Shared → Prop} {a : Addr}
theorem str_rdn {d : PyData} (r : RdN s.heap (.ref a) d) (hs : d.showable = true) (hz : d.shown.length ≤ sizeLine) (gd : A.guards = some []) (un : A.units + (d.depth + 3) < cLine)
    (q : ∀ h' u tk, (∀ b o, s.heap.get? b = some o → h'.get? b = some o) → Q (.str d.shown u) { s with heap := h', toks := tk }) : wpAny (model prog w) A (call (.type "str") [.ref a]) Q E s :=
  callType_new F.called_str (by decide) (F.typeCall_str_1 _) (F.newCall_str_1 _) (fun obj => F.args_object_init_2 obj _) F.entry_str_new
    (PySem.meets_str_new (S := fun A' R s' => RdN s'.heap (.ref a) d ∧ A'.guards = some [] ∧ A'.units + (d.depth + 2) < cLine ∧
        ∀ h' u tk, (∀ b o, s'.heap.get? b = some o → h'.get? b = some o) → R (.ok (.ret (.str d.shown u))) { s' with heap := h', toks := tk })
      fun prog' w' A' R s' h => by
        obtain ⟨T, idr, S⟩ := h.1.shows (prog := prog') (w := w') hs hz
        exact wpAny_strOf_slot rfl (by show A'.units + 1 + 1 < cLine; have := h.2.2.1; omega) (S.typeIs s' fun _ _ e => e) S.slotStr S.slotRepr (S.call A'.in1.in1 _ s' _ h.2.1 (by show A'.units + 1 + 1 + d.depth < cLine; have := h.2.2.1; omega) (fun _ _ e => e) fun h' u tk hk => ⟨_, _, rfl, h.2.2.2 h' u tk hk⟩))
    ⟨r, gd, by show A.units + 1 + (d.depth + 2) < cLine; omega, fun h' u tk hk => ⟨typeIs_str _ _ _, q h' u tk hk⟩⟩
end
/-- str(d), d a dict, a list or a tuple of data -/
def rStrD : List V → Hp → VK → Prop := fun xs H Q => ∃ (a : Addr) (d : PyData), xs = [.ref a] ∧ RepAs H (.ref a) d ∧ Q (.str d.shown) H
theorem cr_strD {X : Cx} (hg : X.A.guards = some []) (hu : X.A.units + 64 < cLine) : CallR X (.type "str") rStrD := by
  intro pins s σ H xs us Q I r h
  obtain ⟨a, d, rfl, ⟨dq, fn, dp, wt⟩, q⟩ := h
  have h2 : (sizeLine : Nat) = 16777216 := sizeLine_eq
  have sz : d.shown.length ≤ sizeLine := by have := shown_wt d fn; omega
  obtain ⟨u, rfl, ru⟩ := vals1 r
  cases (show u = Value.ref a from ru)
  exact str_rdn (dq.rdn I _ rfl) (fine_show d fn) sz hg (by omega) fun h' u tk k => ⟨.str d.shown, H, I.kept (t' := tk) k, ⟨u, rfl⟩, q⟩

/-! Ku: y = {..} on one line; {e: f for k, v in d.items()}. -/
section
variable {X : Cx}
/-- name = {..} on one line, the name a local (as ps_setLc for lists) -/
theorem ps_setDc {i : Nat} {y : Str} {py : Pos} {kx vx tg iter : Expr} {ifs : List Expr} {scope : Scope} {own : List (Str × Nat)} {pos spos : Pos} {wi : TI} {g : TG} {tt : TT} {tk tv : TE} (hc : X.calm = true) (hN : X.N.Nodup) (hy : X.N[i]? = some y) (hyl : X.env.scope.names.lookup y = some .local)
    (hsw : swapsWith (.DictComp kx vx [⟨tg, iter, ifs, 0⟩] scope pos) (some (.Name y py)) spos.line X.env = pure true) (hi : PI X tg iter wi) (ok : BlkOk X.N X.env.scope scope own)
    (hg : ∀ (s : Shared) (H : Hp) (C : Addr) (cl : List (Str × Addr)) (fp : List Addr), PG (X.blk s H scope (compEnvC scope cl C X.env) fp) tg g) (ht : ∀ (s : Shared) (H : Hp) (C : Addr) (cl : List (Str × Addr)) (fp : List Addr), PTs (X.blk s H scope (compEnvC scope cl C X.env) fp) ifs tt)
    (hk : ∀ (s : Shared) (H : Hp) (C : Addr) (cl : List (Str × Addr)) (fp : List Addr), PE (X.blk s H scope (compEnvC scope cl C X.env) fp) kx tk)
    (he : ∀ (s : Shared) (H : Hp) (C : Addr) (cl : List (Str × Addr)) (fp : List Addr), PE (X.blk s H scope (compEnvC scope cl C X.env) fp) vx tv) (hs : ∀ x, foldedSetIterable iter X.env x = pure x := by intro _; rfl) :
    PS X (.Assign [.Name y py] (.DictComp kx vx [⟨tg, iter, ifs, 0⟩] scope pos) spos) (tAsg (tDc wi g tt tk tv (own.map (·.2))) (gName i)) := by
  refine ⟨fun pins s σ H D I h => ?_⟩
  rw [exec_Assign_Name_used _ _ _ _ hsw]
  refine wpAny_bind (wpAny_standAt (wpAny_bind ?_))
  show wpAny _ X.A (do let _ ← comprehension (.DictComp kx vx [⟨tg, iter, ifs, 0⟩] scope pos) scope X.env (firstIterPos [⟨tg, iter, ifs, 0⟩] pos) newDict false (eval iter X.env) (some (assign (.Name y py) X.env))) _ _ s
  have h : tDc wi g tt tk tv (own.map (·.2)) σ H (fun x H1 => gName i x σ H1 D.nx) := h
  refine wpAny_bind (thn (dc_core (Qf := fun _ s' => SP X pins D .next s') hc hN I hi ok hg ht hk he hs h fun L C s' m H' I' q hn f => ?_) fun _ s' hq => wpAny_pure (wpAny_pure hq))
  show wpAny _ _ (assign (.Name y py) X.env (.ref L)) _ _ _
  refine wpAny_assign_Name (store_ok2 (v := V.ref L) I' hN hy (.inl hyl) rfl (fun s2 I2 ⟨a, sb, ha⟩ => ?_) (.inr hyl))
  obtain ⟨f0, f1, f2, f3, f4, f5⟩ := f
  have haC : C ≠ a := by
    rcases ha with z | z
    · rw [z]; exact f1
    · exact fun e => f4 y a z e.symm
  refine ⟨m, hn.sameBut sb haC, fun h3 sb3 => ?_⟩
  exact ⟨_, H', I2.turned (t' := s2.toks) (fun b o hb e => (sb3.2 b hb).trans e) f0 f1 f3 f4 f5, q⟩
theorem sw_trueD {kx vx : Expr} {gs : List Comprehension} {scope : Scope} {pos py : Pos} {y : Str} {l : Nat} {env : Env} (hk : env.scope.kind = .function) (hy : env.scope.names.lookup y = some .local) (hl : (py.line == pos.line) = true)
    (ha : (scope.names.any fun (n, k) => n == y && (k == .local || k == .cell)) = false) : swapsWith (.DictComp kx vx gs scope pos) (some (.Name y py)) l env = pure true := by
  have ky : env.kindOf y = some .local := hy
  have hb : env.blockKind = .function := by unfold Env.blockKind; rw [hk]; rfl
  unfold swapsWith
  simp only [hb, ky, ha, Expr.pos, hl]
  rfl
end
section
variable {g : TG} {tk tv : TE} {vs : List Nat} {σ : L2.St} {H1 : Hp} {D : Addr} {Qd : Hp → Prop}
/-- {e: f for k, v in d.items()}, d locked -/
theorem dc_itemsM {d : Addr} {o : Obj} {kvs : List (Key × V)} (fk : Key → V → Key) (fv : Key → V → V) (hd : H1 d = some (.frz o (.dK kvs))) (hz : kvs.length ≤ 1000000) (hD : H1 D = none)
    (hs : ∀ (k : Key) (v : V) (T : Addr) (H' : Hp) (Ky : V → V → Hp → Prop), (k, v) ∈ kvs → Same H1 H' → H' T = some (.tup [kV k, v]) → (∀ H4, Same H' H4 → Ky (kV (fk k v)) (fv k v) H4) →
      g (.ref T) (wipe σ vs) H' fun σ2 H2 => wipe σ2 vs = wipe σ vs ∧ tk σ2 H2 fun y H4 => tv σ2 H4 fun z H5 => Ky y z H5)
    (hq : ∀ H', Same H1 H' → H' D = some (.dK (mergeK [] (kvs.map fun kv => (fk kv.1 kv.2, fv kv.1 kv.2)))) → Qd H') :
    ∃ W : Nat → Nat → Hp → Prop, (∃ m, W 0 m (upd H1 D (.dK []))) ∧ ∀ i m H, W i m H →
      ((Iti d o kvs).stop i H ∧ Qd H) ∨ ((Iti d o kvs).go i H ∧ ∃ Nx : Hp → Prop, (∀ H', Nx H' → ∃ m', m' < m ∧ W (i + 1) m' H') ∧ ∀ x H', (Iti d o kvs).yld i H x H' → g x (wipe σ vs) H' fun σ2 H2 => wipe σ2 vs = wipe σ vs ∧ tYes σ2 H2 fun b H3 =>
        if b = true then tk σ2 H3 fun y H4 => tv σ2 H4 fun z H5 => ∃ kvs k, y = kV k ∧ H5 D = some (.dK kvs) ∧ kvs.length < sizeLine ∧ Nx (upd H5 D (.dK (putK kvs k z))) else Nx H3) := by
  have w : Walk (Iti d o kvs) kvs.length (fun H => H d = some (.frz o (.dK kvs))) (fun i H x H' => ∃ T k v, kvs[i]? = some (k, v) ∧ x = .ref T ∧ H T = none ∧ H' = upd H T (.tup [kV k, v])) :=
    ⟨fun _ _ hi q => ⟨q, hi⟩, fun _ q => ⟨q, Nat.le_refl _⟩, fun _ _ _ _ _ _ y => y⟩
  refine dc_pure w (fun (i : Nat) => (kvs[i]?).bind fun kv => some (fk kv.1 kv.2, fv kv.1 kv.2)) hz hD (fun H s => s _ _ hd) (fun i H x H' y => by obtain ⟨T, k, v, _, _, hT, rfl⟩ := y; exact same_upd hT) ?_ (fun H' s e => hq H' s (by rw [e, fm_bind]; simp))
  rintro i x H H' Ky Kn hi s1 ⟨T, k, v, e, rfl, hT, rfl⟩ ky kn
  have key := hs k v T _ Ky (List.mem_of_getElem? e) (s1.trans (same_upd hT)) upd_same (fun H4 s4 => ky _ _ H4 s4 (by rw [e]; rfl))
  exact key
end

/-! Kif: {e: f for k, v in d.items() if t}, [e for v in d.values() if t]. -/
section
variable {g : TG} {tt : TT} {tk tv te : TE} {vs : List Nat} {σ : L2.St} {H1 : Hp} {D : Addr} {Qd : Hp → Prop}
/-- {e: f for k, v in d.items() if t}, d locked -/
theorem dc_itemsF {d : Addr} {o : Obj} {kvs : List (Key × V)} (f : Key → V → Option (Key × V)) (hd : H1 d = some (.frz o (.dK kvs))) (hz : kvs.length ≤ 1000000) (hD : H1 D = none)
    (hs : ∀ (k : Key) (v : V) (T : Addr) (H' : Hp) (Ky : V → V → Hp → Prop) (Kn : Hp → Prop), (k, v) ∈ kvs → Same H1 H' → H' T = some (.tup [kV k, v]) → (∀ k' z H4, Same H' H4 → f k v = some (k', z) → Ky (kV k') z H4) → (∀ H4, Same H' H4 → f k v = none → Kn H4) →
      g (.ref T) (wipe σ vs) H' fun σ2 H2 => wipe σ2 vs = wipe σ vs ∧ tt σ2 H2 fun b H3 => if b = true then tk σ2 H3 fun y H4 => tv σ2 H4 fun z H5 => Ky y z H5 else Kn H3)
    (hq : ∀ H', Same H1 H' → H' D = some (.dK (mergeK [] (kvs.filterMap fun kv => f kv.1 kv.2))) → Qd H') :
    ∃ W : Nat → Nat → Hp → Prop, (∃ m, W 0 m (upd H1 D (.dK []))) ∧ ∀ i m H, W i m H →
      ((Iti d o kvs).stop i H ∧ Qd H) ∨ ((Iti d o kvs).go i H ∧ ∃ Nx : Hp → Prop, (∀ H', Nx H' → ∃ m', m' < m ∧ W (i + 1) m' H') ∧ ∀ x H', (Iti d o kvs).yld i H x H' → g x (wipe σ vs) H' fun σ2 H2 => wipe σ2 vs = wipe σ vs ∧ tt σ2 H2 fun b H3 =>
        if b = true then tk σ2 H3 fun y H4 => tv σ2 H4 fun z H5 => ∃ kvs k, y = kV k ∧ H5 D = some (.dK kvs) ∧ kvs.length < sizeLine ∧ Nx (upd H5 D (.dK (putK kvs k z))) else Nx H3) := by
  have w : Walk (Iti d o kvs) kvs.length (fun H => H d = some (.frz o (.dK kvs))) (fun i H x H' => ∃ T k v, kvs[i]? = some (k, v) ∧ x = .ref T ∧ H T = none ∧ H' = upd H T (.tup [kV k, v])) :=
    ⟨fun _ _ hi q => ⟨q, hi⟩, fun _ q => ⟨q, Nat.le_refl _⟩, fun _ _ _ _ _ _ y => y⟩
  refine dc_pure w (fun (i : Nat) => (kvs[i]?).bind fun kv => f kv.1 kv.2) hz hD (fun H s => s _ _ hd) (fun i H x H' y => by obtain ⟨T, k, v, _, _, hT, rfl⟩ := y; exact same_upd hT) ?_ (fun H' s e => hq H' s (by rw [e, fm_bind]))
  rintro i x H H' Ky Kn hi s1 ⟨T, k, v, e, rfl, hT, rfl⟩ ky kn
  have key := hs k v T _ Ky Kn (List.mem_of_getElem? e) (s1.trans (same_upd hT)) upd_same (fun k' z H4 s4 ef => ky k' z H4 s4 (by rw [e]; exact ef)) (fun H4 s4 ef => kn H4 s4 (by rw [e]; exact ef))
  exact key
/-- [e for k, v in d.items() if t], d locked -/
theorem lc_itemsF {d : Addr} {o : Obj} {kvs : List (Key × V)} (f : Key → V → Option V) (hd : H1 d = some (.frz o (.dK kvs))) (hz : kvs.length ≤ 1000000) (hD : H1 D = none)
    (hs : ∀ (k : Key) (v : V) (T : Addr) (H' : Hp) (Ky : V → Hp → Prop) (Kn : Hp → Prop), (k, v) ∈ kvs → Same H1 H' → H' T = some (.tup [kV k, v]) → (∀ y H4, Same H' H4 → f k v = some y → Ky y H4) → (∀ H4, Same H' H4 → f k v = none → Kn H4) →
      g (.ref T) (wipe σ vs) H' fun σ2 H2 => wipe σ2 vs = wipe σ vs ∧ tt σ2 H2 fun b H3 => if b = true then te σ2 H3 Ky else Kn H3)
    (hq : ∀ H', Same H1 H' → H' D = some (.lst (kvs.filterMap fun kv => f kv.1 kv.2)) → Qd H') :
    ∃ W : Nat → Nat → Hp → Prop, (∃ m, W 0 m (upd H1 D (.lst []))) ∧ ∀ i m H, W i m H →
      ((Iti d o kvs).stop i H ∧ Qd H) ∨ ((Iti d o kvs).go i H ∧ ∃ Nx : Hp → Prop, (∀ H', Nx H' → ∃ m', m' < m ∧ W (i + 1) m' H') ∧ ∀ x H', (Iti d o kvs).yld i H x H' → g x (wipe σ vs) H' fun σ2 H2 => wipe σ2 vs = wipe σ vs ∧ tt σ2 H2 fun b H3 =>
        if b = true then te σ2 H3 fun y H4 => ∃ acc, H4 D = some (.lst acc) ∧ acc.length < sizeLine ∧ Nx (upd H4 D (.lst (acc ++ [y]))) else Nx H3) := by
  have w : Walk (Iti d o kvs) kvs.length (fun H => H d = some (.frz o (.dK kvs))) (fun i H x H' => ∃ T k v, kvs[i]? = some (k, v) ∧ x = .ref T ∧ H T = none ∧ H' = upd H T (.tup [kV k, v])) :=
    ⟨fun _ _ hi q => ⟨q, hi⟩, fun _ q => ⟨q, Nat.le_refl _⟩, fun _ _ _ _ _ _ y => y⟩
  refine lc_pure w (fun (i : Nat) => (kvs[i]?).bind fun kv => f kv.1 kv.2) hz hD (fun H s => s _ _ hd) (fun i H x H' y => by obtain ⟨T, k, v, _, _, hT, rfl⟩ := y; exact same_upd hT) ?_ (fun H' s e => hq H' s (by rw [e, fm_bind]))
  rintro i x H H' Ky Kn hi s1 ⟨T, k, v, e, rfl, hT, rfl⟩ ky kn
  have key := hs k v T _ Ky Kn (List.mem_of_getElem? e) (s1.trans (same_upd hT)) upd_same (fun y H4 s4 ef => ky y H4 s4 (by rw [e]; exact ef)) (fun H4 s4 ef => kn H4 s4 (by rw [e]; exact ef))
  exact key
end
theorem w_disp1 {σ : L2.St} {H : Hp} {Q : VK} (k : Key) {y : V} (h : New (.dK [(k, y)]) H Q) : tDisp [(tC (kV k), tC y)] σ H Q := fun p hp => by
  refine ⟨upd_same, [(k, y)], rfl, (by show 1 ≤ 15; omega), ?_⟩
  exact h p _ hp (same_put (same_upd hp) hp) upd_same

def topS (i : Nat) : Stmt := PySem.Challenge.pw_keptcode_k05_equal_codebooks.main.body.getD i (.Pass ⟨0, 0, 0, 0⟩)
def inClass : Stmt → Nat → Stmt
  | .ClassDef _ _ _ body _ _ _ _ _ _ _, i => body.getD i (.Pass ⟨0, 0, 0, 0⟩)
  | s, _ => s
abbrev s_CodeError : Stmt := topS 1
abbrev s_InvalidCodebook : Stmt := topS 2
abbrev s_UnknownName : Stmt := topS 3
abbrev s_is_integer : Stmt := topS 8
abbrev s_is_radix : Stmt := topS 9
abbrev s_is_depth : Stmt := topS 10
abbrev s_is_name : Stmt := topS 11
abbrev s_is_codeword : Stmt := topS 12
abbrev s_prefixes : Stmt := topS 13
abbrev s_is_prefix_free : Stmt := topS 14
abbrev s_is_words : Stmt := topS 15
abbrev s_is_codebook : Stmt := topS 16
abbrev s_sorted_words : Stmt := topS 17
abbrev s_Codebook : Stmt := topS 18
abbrev s_Codebook___init__ : Stmt := inClass (topS 18) 0
abbrev s_Codebook_words : Stmt := inClass (topS 18) 1
abbrev s_Codebook_reserved : Stmt := inClass (topS 18) 2
abbrev s_Codebook_codeword : Stmt := inClass (topS 18) 3
abbrev s_Codebook___len__ : Stmt := inClass (topS 18) 4
abbrev s_Codebook___eq__ : Stmt := inClass (topS 18) 5
abbrev s__law_pen : Stmt := topS 20
abbrev s__law_next : Stmt := topS 21
abbrev s__law_draw : Stmt := topS 22
abbrev s__law_names : Stmt := topS 23
abbrev s__law_strings : Stmt := topS 24
abbrev s__law_parts : Stmt := topS 25
abbrev s__law_any : Stmt := topS 26
abbrev s_law : Stmt := topS 27
structure Adr where
  CodeError : Addr
  InvalidCodebook : Addr
  UnknownName : Addr
  Codebook : Addr
  d0_Codebook : Addr
structure Txt (K : PySem.W.Frag) (mg : Str → Option Value) (c : Adr) : Prop where
  b_len : mg "len" = none
  b_isinstance : mg "isinstance" = none
  b_all : mg "all" = none
  b_any : mg "any" = none
  b_str : mg "str" = none
  b_int : mg "int" = none
  b_bool : mg "bool" = none
  b_list : mg "list" = none
  b_tuple : mg "tuple" = none
  b_dict : mg "dict" = none
  b_range : mg "range" = none
  b_sorted : mg "sorted" = none
  b_sum : mg "sum" = none
  b_min : mg "min" = none
  b_max : mg "max" = none
  b_repr : mg "repr" = none
  b_enumerate : mg "enumerate" = none
  b_zip : mg "zip" = none
  b_set : mg "set" = none
  x_CodeError : ExcF K mg "CodeError" c.CodeError
  x_InvalidCodebook : ExcF K mg "InvalidCodebook" c.InvalidCodebook
  x_UnknownName : ExcF K mg "UnknownName" c.UnknownName
  gLETTERS : ∃ t, mg "LETTERS" = some (.str "abcdefghijklmnopqrstuvwxyz" t)
  gDIGITS : ∃ t, mg "DIGITS" = some (.str "0123" t)
  gMAX_NAME : ∃ t, mg "MAX_NAME" = some (.int 8 t)
  k_Codebook : ClsF K mg "Codebook" c.Codebook
  n_Codebook_radix : NoAttr K c.Codebook "radix"
  n_Codebook_depth : NoAttr K c.Codebook "depth"
  n_Codebook_by_name : NoAttr K c.Codebook "by_name"
  n_Codebook_blocked : NoAttr K c.Codebook "blocked"
  d0_Codebook : ∀ H, SqT K H c.d0_Codebook []
local macro_rules | `(tactic| walk_at "w1") => `(tactic| with_reducible first
  | refine w_seq ?_ | refine w_asg ?_ | refine w_gname ?_ | refine w_var rfl ?_ | refine w_c ?_ | refine w_op ?_ | refine w_cons ?_ | refine w_nil ?_ | refine w_cb ?_ | refine w_rI0 ?_
  | refine w_bl ?_ | refine iteT ?_ | refine iteF ?_ | refine iteNT ?_ | refine iteNF ?_ | refine w_ret ?_ | refine w_ifS ?_ | refine w_test ?_ | refine w_call ?_ | refine w_next ?_ | refine w_drop ?_ | refine w_retN ?_
  | refine w_eqI ?_ | refine w_neI ?_ | refine w_eqS ?_ | refine w_neS ?_ | refine w_inG ?_ | refine w_notInG ?_ | refine w_leS ?_ | refine w_ltS ?_ | refine w_rU ?_ | refine w_ip ?_ | refine w_in ?_
  | refine w_tup ?_ | refine w_lst ?_ | refine w_bm ?_ | refine w_bm0 ?_ | refine w_m1 ?_ | refine w_str ?_ | refine w_sl ?_ | refine w_part ?_ | refine w_nopart ?_ | refine w_un ?_ | refine w_chain ?_
  | refine w_andV ?_ | refine w_orV ?_ | refine w_notV ?_ | refine w_if ?_ | refine w_tB ?_ | refine w_and ?_ | refine w_or ?_ | refine w_not ?_ | refine w_yes ?_ | refine w_gsub ?_ | refine w_gcons ?_ | refine w_gnil ?_
  | refine w_lc ?_ | refine w_for ?_ | refine w_iStr ?_ | refine w_iList ?_ | refine w_iTup ?_ | refine w_iRng1 ?_ | refine w_iRng2 ?_ | refine w_exS ?_ | refine w_wipe rfl ?_ | refine w_par ?_ | refine w_two ?_ | refine w_aug rfl ?_ | refine w_eqB ?_ | refine w_startsN ?_ | refine w_frz ?_ | refine w_iItems ?_ | refine w_iVals ?_ | refine w_iKeys ?_ | refine w_dc ?_
  | refine w_lvals ?_ | refine w_lzip ?_ | refine w_lzipS ?_ | refine w_callS ?_ | refine w_makeS ?_ | refine w_held ?_ | refine w_ienumS ?_ | refine w_only ?_ | refine w_litems ?_ | refine w_fs3 ?_ | refine w_fs2 ?_ | refine w_errI ?_ | refine w_xget ?_ | refine w_vei ?_ | refine w_ost ?_ | refine w_dnew ?_ | refine w_iSeq ?_ | refine w_meth ?_ | refine w_make ?_ | refine w_err ?_ | refine w_dget ?_ | refine w_din ?_ | refine w_dnotin ?_ | refine w_dput ?_ | refine w_lc2 ?_ | refine w_fld ?_ | refine w_sfld ?_ | refine w_scS ?_)
local macro_rules | `(tactic| walk_at "num") => `(tactic| first
  | exact Or.inr ⟨by decide, by decide⟩ | exact Or.inl ⟨by omega, by omega⟩ | (show (0 : Int) < _; decide) | (show (0 : Int) < _; omega) | exact ⟨by decide, by decide⟩ | exact ⟨by decide, by decide, by decide⟩ | exact ⟨by omega, by omega⟩)
local macro_rules | `(tactic| walk_at "w") => `(tactic| repeat (first | walk_at "w1" | ((with_reducible refine w_rI ?_ ?_); (walk_at "num")) | (with_reducible refine w_sz (by simp) ?_)))
local macro_rules | `(tactic| walk_at "hp") => `(tactic| first | assumption | exact upd_same | solve_by_elim (maxDepth := 9) [same_at])
local macro_rules | `(tactic| walk_at "sq") => `(tactic| first | assumption | exact SqL.of (by walk_at "hp") | exact SqT.of (by walk_at "hp"))
local macro_rules | `(tactic| walk_at "h") => `(tactic| first | assumption | grind (ematch := 40) (gen := 40) (splits := 10) (instances := 5000) only [= same_eq, = kp_eq, = rs_eq, → rs_at, → pn_ex, = upd_eq, = wo_eq, = List.mem_cons, List.not_mem_nil, = ok_n, = ok_l, = ok_t, = ok_d, = ok_i, = ok_f] | grind (ematch := 40) (gen := 40) (splits := 100) (instances := 5000) only [= same_eq, = kp_eq, = rs_eq, → rs_at, → pn_ex, = upd_eq, = wo_eq, = List.mem_cons, List.not_mem_nil, = ok_n, = ok_l, = ok_t, = ok_d, = ok_i, = ok_f])
local macro_rules | `(tactic| walk_at "pen") => `(tactic| (refine pen_to (by assumption) (by walk_at "h") (by omega)))
local macro_rules | `(tactic| walk_at "lit") => `(tactic| first
  | with_reducible exact lit_cint | with_reducible exact lit_cstr | with_reducible exact lit_cbl | with_reducible exact lit_cnon | with_reducible exact lit_dnew
  | ((with_reducible apply lit_lst); (walk_at "lita"); (exact rfl)) | ((with_reducible apply lit_tup); (walk_at "lita"); (exact rfl)) | ((with_reducible apply lit_disp); (walk_at "litp"); (exact ⟨rfl, by decide⟩); (decide +kernel))
  | (apply lit_var rfl; (exact .int _)) | (apply lit_var rfl; (exact .str _)) | (apply lit_var rfl; (assumption))
  | ((with_reducible apply lit_int); intro H1 Q h; walk_at "w"; exact h) | ((with_reducible apply lit_str); intro H1 Q h; walk_at "w"; exact h))
local macro_rules | `(tactic| walk_at "lita") => `(tactic| first | with_reducible exact lit_nil | ((with_reducible apply lit_cons); (walk_at "lit"); (walk_at "lita")))
local macro_rules | `(tactic| walk_at "litp") => `(tactic| first | with_reducible exact lit_pnil | ((with_reducible apply lit_pcI); (walk_at "lit"); (walk_at "litp")) | ((with_reducible apply lit_pcS); (walk_at "lit"); (walk_at "litp")))

def isLetter (c : Nat) : Bool := decide (c ∈ (Str.ofString "abcdefghijklmnopqrstuvwxyz").cps.toList)
def isNameS (x : Str) : Bool := decide (1 ≤ x.length) && decide (x.length ≤ 8) && x.cps.toList.all isLetter
def isName : V → Bool | .str x => isNameS x | _ => false
def sp_is_name : Sp := fun vs H Q _ => ∃ v, vs = [v] ∧ ShV H v ∧ ∀ H', Same H H' → Q (.bl (isName v)) H'
theorem line1000 {n : Nat} (h : n ≤ 20000) : n ≤ sizeLine := by
  have z : (sizeLine : Nat) = 16777216 := sizeLine_eq
  omega
theorem isName_not {v : V} (hs : isS v = false) : isName v = false := by
  cases v <;> first | rfl | cases hs
theorem isName_len {x : Str} (h : ¬ (1 ≤ x.length ∧ x.length ≤ 8)) : isName (V.str x) = false := by
  show (decide (1 ≤ x.length) && decide (x.length ≤ 8) && x.cps.toList.all isLetter) = _
  by_cases h1 : 1 ≤ x.length
  · rw [decide_eq_false (fun h2 => h ⟨h1, h2⟩)]; simp
  · rw [decide_eq_false h1]; simp
theorem isName_in {x : Str} (h1 : 1 ≤ x.length) (h2 : x.length ≤ 8) : isName (V.str x) = (x.cps.toList.map isLetter).all id := by
  show (decide (1 ≤ x.length) && decide (x.length ≤ 8) && x.cps.toList.all isLetter) = _
  rw [decide_eq_true h1, decide_eq_true h2]
  simp
section
variable {P : Program} {w : World} {K : PySem.W.Frag} {mg : Str → Option Value} {base : Heap}
theorem sc_is_name : FnScope ["thing", "sign"] ["thing"] (defScope s_is_name) := ⟨rfl, rfl, rfl, by decide +kernel, rfl, by decide +kernel, by decide +kernel⟩
theorem ok_is_name {c : Adr} (T : Txt K mg c) (F : At K mg "is_name" "is_name" s_is_name) : DefOk P w K mg base 1 "is_name" ["thing"] sp_is_name := by
  refine DefOk.of F sc_is_name (fun _ _ _ _ _ _ us hl => match us, hl with | [_], _ => rfl) (fun vs H Q E h => ?_) (fun f cdv A outer s H vs Q E hr h => ?_)
  · obtain ⟨v, rfl, _⟩ := h
    rfl
  · obtain ⟨v, rfl, hv, k⟩ := h
    refine ⟨_, (pss_one (ps_ret (pe_and (pe_callB call_isi (by rfl) T.b_isinstance (by decide +kernel) (pa_cons (pv 0) (pa_cons (pe_ty "str" T.b_str (by decide +kernel)) pa_nil))) (pe_and (pe_chain op_le op_le pe_int (pe_callB cr_len (by rfl) T.b_len (by decide +kernel) (pa_cons (pv 0) pa_nil)) (pe_gi T.gMAX_NAME)) (pe_one (pe_callB (cr_all rfl) (by rfl) T.b_all (by decide +kernel) (pa_cons (pe_lc (own := [("sign", 1)]) (g := gName 1) (tt := tYes) (by rfl) sc_is_name.nd (pi_str (pv 0)) (blkOk_by (N := ["thing", "sign"]) (sc := defScope s_is_name) (by decide +kernel))
    (fun _ _ _ _ _ => (pg_name (i := 1) sc_is_name.nd rfl (Or.inl rfl))) (fun _ _ _ _ _ => pts_nil) (fun _ _ _ _ _ => (pe_cmpR op_inG (pv 1) (pe_gs T.gLETTERS) (by rfl)))) pa_nil))))))), ?_⟩
    walk_at "w"
    refine sh_str hv ?_
    walk_at "w"
    cases hv with
    | str x hx =>
      show if true = true then _ else _
      walk_at "w"
      refine w_lenS (line1000 hx.1) ?_
      walk_at "w"
      refine ifD (fun h1 => ?_) (fun h1 => ?_)
      · walk_at "w"
        refine ifD (fun h2 => ?_) (fun h2 => ?_)
        · walk_at "w"
          intro D hD
          refine lc_textM (fun c => .bl (isLetter c)) (by have := hx.1; omega) hD (fun c H' Ky hc s1 ky => ?_) (fun H' s e => ?_)
          · walk_at "w"
            exact ky _ (Same.refl _)
          · walk_at "w"
            refine w_all (bs := x.cps.toList.map isLetter) (.of (by rw [e]; simp)) ?_
            have ee : isName (V.str x) = (x.cps.toList.map isLetter).all id := by
              show (decide (1 ≤ x.length) && decide (x.length ≤ 8) && x.cps.toList.all isLetter) = _
              rw [decide_eq_true (show 1 ≤ x.length by omega), decide_eq_true (show x.length ≤ 8 by omega)]
              simp
            rw [← ee]
            exact k _ s
        · walk_at "w"
          have ee : isName (V.str x) = false := by
            show (decide (1 ≤ x.length) && decide (x.length ≤ 8) && x.cps.toList.all isLetter) = _
            rw [decide_eq_false (show ¬ x.length ≤ 8 by omega)]
            simp
          rw [← ee]
          exact k _ (Same.refl _)
      · walk_at "w"
        have ee : isName (V.str x) = false := by
          show (decide (1 ≤ x.length) && decide (x.length ≤ 8) && x.cps.toList.all isLetter) = _
          rw [decide_eq_false (show ¬ 1 ≤ x.length by omega)]
          simp
        rw [← ee]
        exact k _ (Same.refl _)
    | _ => exact iteF (k _ (Same.refl H))
end

/-! Cw: is_codeword. -/
def isDig (r : Int) (c : Nat) : Bool := decide (48 ≤ c) && decide ((c : Int) < 48 + r)
def isCode (r h : Int) : V → Bool
  | .str x => decide (1 ≤ x.length) && decide ((x.length : Int) ≤ h) && x.cps.toList.all (isDig r)
  | _ => false
def sp_is_codeword : Sp := fun vs H Q _ => ∃ (r h : Int) (v : V), vs = [.int r, .int h, v] ∧ 2 ≤ r ∧ r ≤ 4 ∧ ShV H v ∧ ∀ H', Same H H' → Q (.bl (isCode r h v)) H'
theorem dig_cut {r : Int} (h2 : 2 ≤ r) (h4 : r ≤ 4) (c : Nat) : decide (c ∈ (cutS (Str.ofString "0123") none (some r)).cps.toList) = isDig r c := by
  have h : r = 2 ∨ r = 3 ∨ r = 4 := by omega
  rcases h with rfl | rfl | rfl
  · have e : (cutS (Str.ofString "0123") none (some 2)).cps.toList = [48, 49] := by decide +kernel
    rw [e, Bool.eq_iff_iff]; simp [isDig]; omega
  · have e : (cutS (Str.ofString "0123") none (some 3)).cps.toList = [48, 49, 50] := by decide +kernel
    rw [e, Bool.eq_iff_iff]; simp [isDig]; omega
  · have e : (cutS (Str.ofString "0123") none (some 4)).cps.toList = [48, 49, 50, 51] := by decide +kernel
    rw [e, Bool.eq_iff_iff]; simp [isDig]; omega
theorem isCode_not {r h : Int} {v : V} (hs : isS v = false) : isCode r h v = false := by
  cases v <;> first | rfl | cases hs
section
variable {P : Program} {w : World} {K : PySem.W.Frag} {mg : Str → Option Value} {base : Heap}
theorem sc_is_codeword : FnScope ["radix", "depth", "thing", "sign"] ["radix", "depth", "thing"] (defScope s_is_codeword) := ⟨rfl, rfl, rfl, by decide +kernel, rfl, by decide +kernel, by decide +kernel⟩
theorem ok_is_codeword {c : Adr} (T : Txt K mg c) (F : At K mg "is_codeword" "is_codeword" s_is_codeword) : DefOk P w K mg base 1 "is_codeword" ["radix", "depth", "thing"] sp_is_codeword := by
  refine DefOk.of F sc_is_codeword (fun _ _ _ _ _ _ us hl => match us, hl with | [_, _, _], _ => rfl) (fun vs H Q E h => ?_) (fun f cdv A outer s H vs Q E hr h => ?_)
  · obtain ⟨r, h, v, rfl, _⟩ := h
    rfl
  · obtain ⟨r, h, v, rfl, r2, r4, hv, k⟩ := h
    refine ⟨_, (pss_cut (ps_if (PW.pt (pw_or (pt_not (pt_val (pe_callB (cr_isi (K := K)) (by rfl) T.b_isinstance (by decide +kernel) (pa_cons (pv 2) (pa_cons (pe_ty "str" T.b_str (by decide +kernel)) pa_nil))))) (pw_or1 (pt_not (pt_chain op_le op_le pe_int (pe_callB (cr_len (K := K)) (by rfl) T.b_len (by decide +kernel) (pa_cons (pv 2) pa_nil)) (pv 1)))))) (pss_one (ps_ret pe_bl))
      pss_nil)
    (pss_one (ps_ret (pe_callB (crAll (K := K) rfl) (by rfl) T.b_all (by decide +kernel) (pa_cons (pe_lc (own := [("sign", 3)]) (g := gName 3) (tt := tYes) (by rfl) sc_is_codeword.nd (pi_str (pv 2)) (blkOk_by (N := ["radix", "depth", "thing", "sign"]) (sc := defScope s_is_codeword) (by decide +kernel))
    (fun _ _ _ _ _ => (pg_name (i := 3) sc_is_codeword.nd rfl (Or.inl rfl))) (fun _ _ _ _ _ => pts_nil) (fun _ _ _ _ _ => (pe_cmpR op_inG (pv 3) (pe_slice sl_str (pe_gs T.gDIGITS) po_none (po_some (pv 0))) (by rfl)))) pa_nil))))), ?_⟩
    rcases isS_or v with ⟨x, rfl⟩ | hs
    · skip
      refine w_cut (fun σ' H' => H' = H ∧ 1 ≤ x.length ∧ (x.length : Int) ≤ h ∧ σ' = [some (.int r), some (.int h), some (.str x), none]) ?_ ?_
      · walk_at "w"
        refine sh_str hv ?_
        walk_at "w"
        show if (!true) = true then _ else _
        walk_at "w"
        refine w_lenS (line1000 hv.okS.1) ?_
        walk_at "w"
        refine ifD (fun h1 => ?_) (fun h1 => ?_)
        · walk_at "w"
          refine ifND (fun h2 => ?_) (fun h2 => ?_)
          · walk_at "w"
            have ee : isCode r h (V.str x) = false := by
              show (decide (1 ≤ x.length) && decide ((x.length : Int) ≤ h) && _) = _
              rw [decide_eq_false h2]; simp
            rw [← ee]
            exact k _ (Same.refl _)
          · walk_at "w"
            exact ⟨rfl, by omega, h2, rfl⟩
        · walk_at "w"
          have ee : isCode r h (V.str x) = false := by
            show (decide (1 ≤ x.length) && decide ((x.length : Int) ≤ h) && _) = _
            rw [decide_eq_false (show ¬ 1 ≤ x.length by omega)]; simp
          rw [← ee]
          exact k _ (Same.refl _)
      · rintro σ' H' ⟨rfl, h1, h2, rfl⟩
        walk_at "w"
        intro D hD
        refine lc_textM (fun c => .bl (isDig r c)) (by have := hv.okS.1; omega) hD (fun c H2 Ky hc s1 ky => ?_) (fun H2 s e => ?_)
        · walk_at "w"
          refine w_slS (by decide) ?_
          walk_at "w"
          rw [dig_cut r2 r4]
          exact ky _ (Same.refl _)
        · walk_at "w"
          refine w_all (bs := x.cps.toList.map (isDig r)) (.of (by rw [e]; simp)) ?_
          have ee : isCode r h (V.str x) = (x.cps.toList.map (isDig r)).all id := by
            show (decide (1 ≤ x.length) && decide ((x.length : Int) ≤ h) && x.cps.toList.all (isDig r)) = _
            rw [decide_eq_true h1, decide_eq_true h2]
            simp
          rw [← ee]
          exact k _ s
    · refine w_cut (fun _ _ => False) ?_ (fun _ _ h => h.elim)
      walk_at "w"
      refine sh_str hv ?_
      rw [hs]
      walk_at "w"
      rw [← isCode_not (r := r) (h := h) hs]
      exact k _ (Same.refl _)
end

/-! Pen: the draws of every law. -/
def sp_pen (K : PySem.W.Frag) : Sp := fun vs H Q _ => ∃ (a : Addr) (ns : List Int), vs = [.ref a] ∧ SqL K H a (ns.map V.int) ∧ ns.length ≤ 63 ∧ ∀ H' p l, Same H H' → H p = none → H l = none → PenAt 0 p l H' → Q (.ref p) H'
def sp_next : Sp := fun vs H Q _ => ∃ (p l : Addr) (b : Nat), vs = [.ref p] ∧ PenAt b p l H ∧ b ≤ 1000000000000 ∧ ∀ H' n, Kp [p] H H' → PenAt (b + 1) p l H' → 0 ≤ n → Q (.int n) H'
def sp_draw : Sp := fun vs H Q _ => ∃ (p l : Addr) (b : Nat) (n : Int), vs = [.ref p, .int n] ∧ PenAt b p l H ∧ b ≤ 1000000000000 ∧ 0 < n ∧ n < 1073741824 ∧ ∀ H' d, Kp [p] H H' → PenAt (b + 1) p l H' → 0 ≤ d → d < n → Q (.int d) H'
section
variable {P : Program} {w : World} {K : PySem.W.Frag} {mg : Str → Option Value} {base : Heap}
theorem cut60 (ns : List Int) : cutV (ns.map V.int) none (some 60) = (ns.take 60).map V.int := by
  unfold cutV
  have h1 : HT.sIx (ns.map V.int).length 0 none = 0 := rfl
  have h2 : HT.sIx (ns.map V.int).length (ns.map V.int).length (some 60) = min 60 ns.length := by
    have := HT.sIx_nat (ns.map V.int).length (ns.map V.int).length 60
    rw [List.length_map] at this
    simpa using this
  rw [h1, h2, List.drop_zero, Nat.sub_zero, List.map_take]
  by_cases h : 60 ≤ ns.length
  · rw [Nat.min_eq_left h]
  · rw [Nat.min_eq_right (by omega), List.take_of_length_le (by simp), List.take_of_length_le (by simp; omega)]
theorem sc__law_pen : FnScope ["script"] ["script"] (defScope s__law_pen) := ⟨rfl, rfl, rfl, by decide +kernel, rfl, by decide +kernel, by decide +kernel⟩
theorem ok__law_pen {c : Adr} (T : Txt K mg c) (F : At K mg "_law_pen" "_law_pen" s__law_pen) : DefOk P w K mg base 1 "_law_pen" ["script"] (sp_pen K) := by
  refine DefOk.of F sc__law_pen (fun _ _ _ _ _ _ us hl => match us, hl with | [_], _ => rfl) (fun vs H Q E h => ?_) (fun f cdv A outer s H vs Q E hr h => ?_)
  · obtain ⟨a, ns, rfl, _⟩ := h
    rfl
  · obtain ⟨a, ns, rfl, ha, hl, k⟩ := h
    refine ⟨_, (pss_one (ps_ret (pe_lstN (pa_cons (pe_callTy cr_listOf (by rfl) T.b_list (by decide +kernel) (pa_cons (pe_slice sl_list (pv 0) po_none (po_some pe_int)) pa_nil)) (pa_cons pe_int (pa_cons pe_int pa_nil)))))), ?_⟩
    walk_at "w"
    refine w_slL ha (fun q H1 _ s1 h1 => ?_)
    walk_at "w"
    refine w_listOfL (.of h1) (fun l H2 hl' s2 h2 => ?_)
    walk_at "w"
    refine fun p H3 hp s3 h3 => ?_
    refine k _ p l (s1.trans (s2.trans s3)) (Same.free s1 (Same.free s2 hp)) (Same.free s1 hl') ⟨ns.take 60, 0, 0, h3, ?_, by decide, by decide, by decide, ?_⟩
    · rw [← cut60]
      walk_at "hp"
    · exact ne_of_none h2 hp
theorem sc__law_next : FnScope ["pen", "index", "cell", "low", "mid", "top"] ["pen"] (defScope s__law_next) := ⟨rfl, rfl, rfl, by decide +kernel, rfl, by decide +kernel, by decide +kernel⟩
theorem ok__law_next {c : Adr} (T : Txt K mg c) (F : At K mg "_law_next" "_law_next" s__law_next) : DefOk P w K mg base 1 "_law_next" ["pen"] sp_next := by
  refine DefOk.of F sc__law_next (fun _ _ _ _ _ _ us hl => match us, hl with | [_], _ => rfl) (fun vs H Q E h => ?_) (fun f cdv A outer s H vs Q E hr h => ?_)
  · obtain ⟨p, l, b, rfl, _⟩ := h
    rfl
  · obtain ⟨p, l, b, rfl, hP, hb, k⟩ := h
    obtain ⟨ns, idx, rest, hp, hl, i0, i1, r0, ne⟩ := hP.ex
    refine ⟨_, (pss_cons (ps_set (i := 1) sc__law_next.nd rfl (Or.inl rfl) (pe_ix ix_list (pv 0) pe_int (fun _ _ => rfl)))
    (pss_cons (ps_asg (pe_op op_add (pv 1) pe_int) (pg_sub (pv 0) pe_int set_list))
    (pss_cons (ps_set (i := 2) sc__law_next.nd rfl (Or.inl rfl) (pe_op op_add (pe_op op_mul (pv 1) pe_int) pe_int))
    (pss_cut (ps_if (pt_cmpR (op_neD hr.units) (pe_ix ix_list (pv 0) pe_int (fun _ _ => rfl)) (pe_lstN pa_nil) (nomark _)) (pss_one (ps_set (i := 2) sc__law_next.nd rfl (Or.inl rfl) (pe_ix ix_list (pe_ix ix_list (pv 0) pe_int (fun _ _ => rfl)) (pe_op op_mod (pv 1) (pe_callB cr_len (by rfl) T.b_len (by decide +kernel) (pa_cons (pe_ix ix_list (pv 0) pe_int (fun _ _ => rfl)) pa_nil))) (fun _ _ => rfl))))
      pss_nil)
    (pss_cut (ps_if (PW.pt (pw_and (pt_cmpR op_lt (pv 1) (pe_callB cr_len (by rfl) T.b_len (by decide +kernel) (pa_cons (pe_ix ix_list (pv 0) pe_int (fun _ _ => rfl)) pa_nil)) (nomark _)) (pw_and1 (pt_cmpR op_ge (pv 2) (pe_op op_pow pe_int pe_int) (nomark _))))) (pss_one (ps_ret (pv 2)))
      pss_nil)
    (pss_cons (ps_set (i := 3) sc__law_next.nd rfl (Or.inl rfl) (pe_op op_mod (pe_op op_add (pe_op op_add (pe_op op_mod (pv 2) pe_int) (pe_op op_mul (pv 1) pe_int)) pe_int) pe_int))
    (pss_cons (ps_set (i := 4) sc__law_next.nd rfl (Or.inl rfl) (pe_op op_mod (pe_op op_add (pe_op op_add (pe_op op_mul (pv 3) (pv 3)) (pe_op op_mul (pv 1) pe_int)) pe_int) pe_int))
    (pss_cons (ps_set (i := 5) sc__law_next.nd rfl (Or.inl rfl) (pe_op op_mod (pe_op op_add (pe_op op_add (pe_op op_mul (pv 4) (pv 4)) (pv 3)) (pe_op op_mul (pe_op op_mul (pv 1) (pv 1)) pe_int)) pe_int))
    (pss_one (ps_ret (pe_op op_add (pe_op op_mul (pe_op op_add (pe_op op_mul (pv 5) pe_int) (pv 4)) pe_int) (pv 3)))))))))))), ?_⟩
    walk_at "w"
    refine w_ixL (.of hp) rfl ?_
    walk_at "w"
    refine w_setL' [.ref l, .int (idx + 1), .int rest] 1 hp rfl rfl ?_
    walk_at "w"
    -- the heap from here on
    have kp : Kp [p] H (upd H p (.lst [.ref l, .int (idx + 1), .int rest])) := kp_upd List.mem_cons_self
    have hp1 : (upd H p (.lst [.ref l, .int (idx + 1), .int rest])) p = some (.lst [.ref l, .int (idx + 1), .int rest]) := upd_same
    have hl1 : (upd H p (.lst [.ref l, .int (idx + 1), .int rest])) l = some (.lst (ns.map V.int)) := by rw [upd_ne ne]; exact hl
    generalize upd H p (.lst [.ref l, .int (idx + 1), .int rest]) = H1 at kp hp1 hl1
    have P1 : PenAt (b + 1) p l H1 := ⟨ns, idx + 1, rest, hp1, hl1, by omega, by omega, r0, ne⟩
    refine w_cut (fun σ' H' => ∃ cell : Int, Same H1 H' ∧ σ' = [some (.ref p), some (.int idx), some (.int cell), none, none, none]) ?_ ?_
    · refine w_ifS ?_
      walk_at "w"
      refine w_ixL (.of hp1) rfl ?_
      walk_at "w"
      refine fun q H2 _ s1 hq => ?_
      refine w_neNil (xs := ns.map V.int) (ints_ok ns) (.of (s1 _ _ hl1)) (.of hq) ?_
      walk_at "w"
      refine ifNB (fun hne => ?_) (fun hne => ?_)
      · walk_at "w"
        refine w_ixL (.of (s1 _ _ hp1)) rfl ?_
        walk_at "w"
        refine w_ixL (.of (s1 _ _ hp1)) rfl ?_
        walk_at "w"
        refine w_lenL (.of (s1 _ _ hl1)) ?_
        walk_at "w"
        have hpos : (0 : Int) < ((ns.map V.int).length : Nat) := by
          cases ns with
          | nil => simp at hne
          | cons _ _ => simp
        refine w_rI hpos ?_
        obtain ⟨v, hv, hm, _⟩ := at_in (xs := ns.map V.int) (Int.emod_nonneg idx (Int.ne_of_gt hpos)) (Int.emod_lt_of_pos idx hpos)
        obtain ⟨c, _, rfl⟩ := List.mem_map.mp hm
        refine w_ixL (.of (s1 _ _ hl1)) hv ?_
        walk_at "w"
        exact ⟨c, s1, rfl⟩
      · walk_at "w"
        exact ⟨_, s1, rfl⟩
    · rintro σ' H2 ⟨cell, s1, rfl⟩
      have fin : ∀ n : Int, 0 ≤ n → Q (.int n) H2 := fun n hn => k _ n (kp.trans (same_wo s1 [p])) (P1.keep s1) hn
      refine w_cut (fun σ' H' => H' = H2 ∧ σ' = [some (.ref p), some (.int idx), some (.int cell), none, none, none]) ?_ ?_
      · walk_at "w"
        refine w_ixL (.of (s1 _ _ hp1)) rfl ?_
        walk_at "w"
        refine w_lenL (.of (s1 _ _ hl1)) ?_
        walk_at "w"
        refine ifD (fun h1 => ?_) (fun h1 => ?_)
        · walk_at "w"
          refine ifD (fun h2 => ?_) (fun h2 => ?_)
          · walk_at "w"
            have : (0 : Int) ≤ 10 ^ (Int.toNat 18) := by decide
            exact fin _ (by omega)
          · walk_at "w"
            exact ⟨rfl, rfl⟩
        · walk_at "w"
          exact ⟨rfl, rfl⟩
      · rintro σ' H' ⟨rfl, rfl⟩
        walk_at "w"
        exact fin _ (by omega)
theorem sc__law_draw : FnScope ["pen", "below", "digit"] ["pen", "below"] (defScope s__law_draw) := ⟨rfl, rfl, rfl, by decide +kernel, rfl, by decide +kernel, by decide +kernel⟩
theorem ok__law_draw {c : Adr} (T : Txt K mg c) (F : At K mg "_law_draw" "_law_draw" s__law_draw) (D__law_next : DefOk P w K mg base 1 "_law_next" ["pen"] sp_next) : DefOk P w K mg base 2 "_law_draw" ["pen", "below"] sp_draw := by
  refine DefOk.of F sc__law_draw (fun _ _ _ _ _ _ us hl => match us, hl with | [_, _], _ => rfl) (fun vs H Q E h => ?_) (fun f cdv A outer s H vs Q E hr h => ?_)
  · obtain ⟨p, l, b, n, rfl, _⟩ := h
    rfl
  · obtain ⟨p, l, b, n, rfl, hP, hb, n0, n1, k⟩ := h
    obtain ⟨ns, idx, rest, hp, hl, i0, i1, r0, ne⟩ := hP.ex
    refine ⟨_, (pss_cut (ps_if (pt_cmpR op_lt (pe_ix ix_list (pv 0) pe_int (fun _ _ => rfl)) (pv 1) (nomark _)) (pss_one (ps_asg (pe_callD D__law_next (hr.mono (by decide)) passL (pa_cons (pv 0) pa_nil)) (pg_sub (pv 0) pe_int set_list)))
      pss_nil)
    (pss_cons (ps_set (i := 2) sc__law_draw.nd rfl (Or.inl rfl) (pe_op op_mod (pe_ix ix_list (pv 0) pe_int (fun _ _ => rfl)) (pv 1)))
    (pss_cons (ps_asg (pe_op op_fdiv (pe_ix ix_list (pv 0) pe_int (fun _ _ => rfl)) (pv 1)) (pg_sub (pv 0) pe_int set_list))
    (pss_one (ps_ret (pv 2)))))), ?_⟩
    refine w_cut (fun σ' H' => Kp [p] H H' ∧ PenAt (b + 1) p l H' ∧ σ' = [some (.ref p), some (.int n), none]) ?_ ?_
    · walk_at "w"
      refine w_ixL (.of hp) rfl ?_
      walk_at "w"
      refine ifD (fun h1 => ?_) (fun h1 => ?_)
      · walk_at "w"
        refine ⟨p, l, b, rfl, hP, hb, fun H1 m kp P1 hm => ?_⟩
        obtain ⟨ns, idx, rest, hp, hl, i0, i1, r0, ne⟩ := P1.ex
        walk_at "w"
        refine w_setL' [.ref l, .int idx, .int m] 2 hp rfl rfl ?_
        refine ⟨kp_put kp List.mem_cons_self, ⟨ns, idx, m, upd_same, by rw [upd_ne ne]; exact hl, i0, i1, hm, ne⟩, rfl⟩
      · walk_at "w"
        exact ⟨Same.refl _, hP.mono (by omega), rfl⟩
    · rintro σ' H1 ⟨kp, P1, rfl⟩
      obtain ⟨ns, idx, rest, hp, hl, i0, i1, r0, ne⟩ := P1.ex
      walk_at "w"
      refine w_ixL (.of hp) rfl ?_
      walk_at "w"
      refine w_ixL (.of hp) rfl ?_
      walk_at "w"
      have q0 : 0 ≤ rest / n := Int.ediv_nonneg r0 (Int.le_of_lt n0)
      refine w_setL' [.ref l, .int idx, .int (rest / n)] 2 hp rfl rfl ?_
      walk_at "w"
      exact k _ _ (kp_put kp List.mem_cons_self) ⟨ns, idx, _, upd_same, by rw [upd_ne ne]; exact hl, i0, i1, q0, ne⟩ (Int.emod_nonneg _ (Int.ne_of_gt n0)) (Int.emod_lt_of_pos _ n0)
end

/-! Cb: what makes a codebook. -/
def sp_is_integer : Sp := fun vs H Q _ => ∃ (v : V) (lo hi : Int), vs = [v, .int lo, .int hi] ∧ ShV H v ∧ ∀ H', Same H H' → Q (.bl (isBetw lo hi v)) H'
def sp_is_radix : Sp := fun vs H Q _ => ∃ v : V, vs = [v] ∧ ShV H v ∧ ∀ H', Same H H' → Q (.bl (isBetw 2 4 v)) H'
def sp_is_depth : Sp := fun vs H Q _ => ∃ v : V, vs = [v] ∧ ShV H v ∧ ∀ H', Same H H' → Q (.bl (isBetw 1 6 v)) H'
def sp_prefixes : Sp := fun vs H Q _ => ∃ s : Str, vs = [.str s] ∧ s.length ≤ 500 ∧ New (.lst ((props s).map V.str)) H Q
def sp_is_prefix_free (K : PySem.W.Frag) : Sp := fun vs H Q _ => ∃ (a : Addr) (xs : List Str), vs = [.ref a] ∧ SqL K H a (xs.map V.str) ∧ xs.length ≤ 2000 ∧ (∀ x ∈ xs, x.length ≤ 500) ∧ ∀ H', Same H H' → Q (.bl (pfB xs)) H'
def wordsB (H : Hp) (r h : Int) : V → Bool
  | .ref a => match H a with
    | some (.dK kvs) => kvs.all fun kv => isName (kV kv.1) && isCode r h kv.2
    | _ => false
  | _ => false
def sp_is_words : Sp := fun vs H Q _ => ∃ (r h : Int) (v : V), vs = [.int r, .int h, v] ∧ 2 ≤ r ∧ r ≤ 4 ∧ AnyV H v ∧ ∀ H', Same H H' → Q (.bl (wordsB H r h v)) H'
def dictOf (H : Hp) : V → Option (List (Key × V))
  | .ref a => match H a with
    | some (.dK kvs) => some kvs
    | _ => none
  | _ => none
def seqOf (H : Hp) : V → Option (List V)
  | .ref a => match H a with
    | some (.lst ys) => some ys
    | some (.tup ys) => some ys
    | _ => none
  | _ => none
def iOf : V → Int
  | .int i => i
  | _ => 0
def strOf : V → Str
  | .str x => x
  | _ => ""
/-- the arguments form a codebook -/
def cbL (H : Hp) (r d wv : V) (os : Option (List V)) : Bool := isBetw 2 4 r && isBetw 1 6 d && match dictOf H wv, os with
  | some kvs, some ys => (kvs.all fun kv => isName (kV kv.1) && isCode (iOf r) (iOf d) kv.2) && (ys.all fun y => isCode (iOf r) (iOf d) y) && pfB ((kvs.map (·.2) ++ ys).map strOf)
  | _, _ => false
/-- any object as the reserved strings, or the written empty tuple; os: its items, if it is a list or a tuple -/
inductive ArgS (K : PySem.W.Frag) (H : Hp) : V → Option (List V) → Prop where
  | any {sv : V} (h : AnyV H sv) : ArgS K H sv (seqOf H sv)
  | dfl {b : Addr} {o : Obj} {n : Nat} (k : K.lookup b = some o) (hc : o.cls = .type "tuple") (hd : o.data = .seq #[] n) : ArgS K H (.ref b) (some [])
def sp_is_codebook (K : PySem.W.Frag) : Sp := fun vs H Q _ => ∃ (r d wv sv : V) (os : Option (List V)), vs = [r, d, wv, sv] ∧ AnyV H r ∧ AnyV H d ∧ AnyV H wv ∧ ArgS K H sv os ∧ ∀ H', Same H H' → Q (.bl (cbL H r d wv os)) H'
theorem isBetw_int {lo hi : Int} {v : V} (h : isBetw lo hi v = true) : ∃ i, v = .int i ∧ lo ≤ i ∧ i ≤ hi := by
  cases v <;> simp_all [isBetw]
theorem code_str {r h : Int} {v : V} (e : isCode r h v = true) : ∃ x : Str, v = .str x ∧ 1 ≤ x.length ∧ (x.length : Int) ≤ h := by
  cases v <;> simp_all [isCode]
theorem codes_str {r h : Int} {vs : List V} (e : vs.all (fun y => isCode r h y) = true) : vs = (vs.map strOf).map V.str := by
  induction vs with
  | nil => rfl
  | cons v t ih =>
    rw [List.all_cons, Bool.and_eq_true] at e
    obtain ⟨x, rfl, _⟩ := code_str e.1
    rw [List.map_cons, List.map_cons, ← ih e.2]
    rfl
theorem codes_len {r h : Int} {vs : List V} (e : vs.all (fun y => isCode r h y) = true) : ∀ x ∈ vs.map strOf, (x.length : Int) ≤ h := by
  intro x hx
  obtain ⟨v, hv, rfl⟩ := List.mem_map.mp hx
  obtain ⟨y, rfl, _, h2⟩ := code_str (List.all_eq_true.mp e v hv)
  exact h2
theorem words_dict {H : Hp} {r h : Int} {v : V} (e : wordsB H r h v = true) : ∃ kvs, dictOf H v = some kvs ∧ (∃ a, v = .ref a ∧ H a = some (.dK kvs)) ∧ (kvs.all fun kv => isName (kV kv.1) && isCode r h kv.2) = true := by
  unfold wordsB at e
  split at e
  · rename_i a
    split at e
    · rename_i kvs hk
      exact ⟨kvs, by simp only [dictOf, hk], ⟨a, rfl, hk⟩, e⟩
    · cases e
  · cases e
theorem seq_of {H : Hp} {v : V} (e : (isT H v || isL H v) = true) : ∃ a ys, v = .ref a ∧ seqOf H v = some ys ∧ (H a = some (.lst ys) ∨ H a = some (.tup ys)) := by
  cases v with
  | ref a =>
    have e' : ((match H a with | some (.tup _) => true | _ => false) || (match H a with | some (.lst _) => true | _ => false)) = true := e
    cases hh : H a with
    | none => rw [hh] at e'; cases e'
    | some o =>
      rw [hh] at e'
      cases o with
      | lst ys => exact ⟨a, ys, rfl, by simp only [seqOf, hh], .inl (by first | rfl | exact hh)⟩
      | tup ys => exact ⟨a, ys, rfl, by simp only [seqOf, hh], .inr (by first | rfl | exact hh)⟩
      | _ => cases e'
  | _ => cases e
theorem seq_not {H : Hp} {v : V} (e : (isT H v || isL H v) = false) : seqOf H v = none := by
  cases v with
  | ref a =>
    have e' : ((match H a with | some (.tup _) => true | _ => false) || (match H a with | some (.lst _) => true | _ => false)) = false := e
    show (match H a with | some (.lst ys) => some ys | some (.tup ys) => some ys | _ => none) = none
    cases hh : H a with
    | none => rfl
    | some o =>
      rw [hh] at e'
      cases o with
      | lst ys => cases e'
      | tup ys => cases e'
      | _ => rfl
  | _ => rfl
theorem AnyV.seq {H : Hp} {a : Addr} {ys : List V} (h : AnyV H (.ref a)) (e : H a = some (.lst ys) ∨ H a = some (.tup ys)) : ys.length ≤ 1000 ∧ ∀ y ∈ ys, AnyV H y := by
  cases h with
  | lst h hz hx => rcases e with e | e <;> rw [h] at e <;> cases e; exact ⟨hz, hx⟩
  | tup h hz hx => rcases e with e | e <;> rw [h] at e <;> cases e; exact ⟨hz, hx⟩
  | dK h _ _ _ => rcases e with e | e <;> rw [h] at e <;> cases e
theorem AnyV.dict {H : Hp} {a : Addr} {kvs : List (Key × V)} (h : AnyV H (.ref a)) (e : H a = some (.dK kvs)) : kvs.length ≤ 1000 ∧ (∀ kv ∈ kvs, okK kv.1) ∧ ∀ kv ∈ kvs, AnyV H kv.2 := by
  cases h with
  | lst h _ _ => rw [h] at e; cases e
  | tup h _ _ => rw [h] at e; cases e
  | dK h hz hk hx => rw [h] at e; cases e; exact ⟨hz, hk, hx⟩
theorem seq_keep {H H' : Hp} {v : V} (h : AnyV H v) (s : Same H H') : seqOf H' v = seqOf H v := by
  cases h with
  | lst h _ _ => simp only [seqOf, h, s _ _ h]
  | tup h _ _ => simp only [seqOf, h, s _ _ h]
  | dK h _ _ _ => simp only [seqOf, h, s _ _ h]
  | _ => rfl
theorem ArgS.keep {K : PySem.W.Frag} {H H' : Hp} {sv : V} {os : Option (List V)} (h : ArgS K H sv os) (s : Same H H') : ArgS K H' sv os := by
  cases h with
  | any h => rw [← seq_keep h s]; exact .any (h.keep s)
  | dfl k hc hd => exact .dfl k hc hd
theorem tl_some {H : Hp} {v : V} : (isT H v || isL H v) = (seqOf H v).isSome := by
  cases e : (isT H v || isL H v) with
  | true =>
    obtain ⟨a, ys, rfl, es, _⟩ := seq_of e
    rw [es]; rfl
  | false => rw [seq_not e]; rfl
theorem ArgS.tl {K : PySem.W.Frag} {H : Hp} {sv : V} {os : Option (List V)} {T : Addr} {Q : VK} (h : ArgS K H sv os) (hT : H T = some (.tup [.ty "tuple", .ty "list"])) (q : Q (.bl os.isSome) H) : rIsiT K [sv, .ref T] H Q := by
  cases h with
  | any h => exact isi_tl rfl h hT (by rw [tl_some]; exact q)
  | dfl k hc hd =>
    exact ⟨_, T, _, _, [.type "tuple", .type "list"], true, rfl, hT, .cons (.ty _) (.cons (.ty _) .nil), .kTuple k hc, kitAny_cons (kit_ty (show kitB "tuple" "tuple" = some true by decide +kernel)) (fun z => by cases z) (fun _ => rfl), q⟩
theorem ArgS.sq {K : PySem.W.Frag} {H : Hp} {sv : V} {ys : List V} (h : ArgS K H sv (some ys)) : ∃ b, sv = .ref b ∧ Sq K H b ys ∧ ys.length ≤ 1000 ∧ ∀ y ∈ ys, AnyV H y := by
  generalize eo : (some ys : Option (List V)) = os at h
  cases h with
  | any h =>
    have e : (isT H sv || isL H sv) = true := by rw [tl_some, ← eo]; rfl
    obtain ⟨b, ys', rfl, es, hb⟩ := seq_of e
    rw [es] at eo
    cases eo
    obtain ⟨yz, hy⟩ := h.seq hb
    exact ⟨b, rfl, hb.elim (fun z => .inl (.of z)) (fun z => .inr (.of z)), yz, hy⟩
  | dfl k hc hd =>
    cases eo
    exact ⟨_, rfl, .inr (.inr ⟨_, #[], _, k, hc, hd, Nat.zero_le _, .nil⟩), Nat.zero_le _, fun y hy => by cases hy⟩
section
variable {P : Program} {w : World} {K : PySem.W.Frag} {mg : Str → Option Value} {base : Heap}
theorem sc_is_integer : FnScope ["thing", "low", "high"] ["thing", "low", "high"] (defScope s_is_integer) := ⟨rfl, rfl, rfl, by decide +kernel, rfl, by decide +kernel, by decide +kernel⟩
theorem ok_is_integer {c : Adr} (T : Txt K mg c) (F : At K mg "is_integer" "is_integer" s_is_integer) : DefOk P w K mg base 1 "is_integer" ["thing", "low", "high"] sp_is_integer := by
  refine DefOk.of F sc_is_integer (fun _ _ _ _ _ _ us hl => match us, hl with | [_, _, _], _ => rfl) (fun vs H Q E h => ?_) (fun f cdv A outer s H vs Q E hr h => ?_)
  · obtain ⟨v, lo, hi, rfl, _⟩ := h
    rfl
  · obtain ⟨v, lo, hi, rfl, hv, k⟩ := h
    refine ⟨_, (pss_one (ps_ret (pe_and (pe_callB (cr_isi (K := K)) (by rfl) T.b_isinstance (by decide +kernel) (pa_cons (pv 0) (pa_cons (pe_ty "int" T.b_int (by decide +kernel)) pa_nil))) (pe_and (pe_not (pe_callB (cr_isi (K := K)) (by rfl) T.b_isinstance (by decide +kernel) (pa_cons (pv 0) (pa_cons (pe_ty "bool" T.b_bool (by decide +kernel)) pa_nil)))) (pe_one (pe_chain op_le op_le (pv 1) (pv 0) (pv 2))))))), ?_⟩
    walk_at "w"
    refine sh_int hv ?_
    walk_at "w"
    refine ifB (fun h1 => ?_) (fun h1 => ?_)
    · walk_at "w"
      refine sh_bool hv ?_
      walk_at "w"
      refine ifNB (fun h2 => ?_) (fun h2 => ?_)
      · obtain ⟨i, rfl⟩ : ∃ i, v = .int i := by
          revert h1 h2; cases v <;> simp [isI, isB]
        walk_at "w"
        refine ifD (fun h3 => ?_) (fun h3 => ?_)
        · walk_at "w"
          have e : isBetw lo hi (.int i) = decide (i ≤ hi) := by show (decide (lo ≤ i) && _) = _; rw [decide_eq_true h3]; rfl
          rw [← e]
          exact k _ (Same.refl _)
        · walk_at "w"
          have e : isBetw lo hi (.int i) = false := by show (decide (lo ≤ i) && _) = _; rw [decide_eq_false h3]; rfl
          rw [← e]
          exact k _ (Same.refl _)
      · walk_at "w"
        have e : isBetw lo hi v = false := by revert h2; cases v <;> simp [isB, isBetw]
        rw [← e]
        exact k _ (Same.refl _)
    · walk_at "w"
      have e : isBetw lo hi v = false := by revert h1; cases v <;> simp [isI, isBetw]
      rw [← e]
      exact k _ (Same.refl _)
theorem sc_is_radix : FnScope ["thing"] ["thing"] (defScope s_is_radix) := ⟨rfl, rfl, rfl, by decide +kernel, rfl, by decide +kernel, by decide +kernel⟩
theorem ok_is_radix {c : Adr} (T : Txt K mg c) (F : At K mg "is_radix" "is_radix" s_is_radix) (D_is_integer : DefOk P w K mg base 1 "is_integer" ["thing", "low", "high"] sp_is_integer) : DefOk P w K mg base 2 "is_radix" ["thing"] sp_is_radix := by
  refine DefOk.of F sc_is_radix (fun _ _ _ _ _ _ us hl => match us, hl with | [_], _ => rfl) (fun vs H Q E h => ?_) (fun f cdv A outer s H vs Q E hr h => ?_)
  · obtain ⟨v, rfl, _⟩ := h
    rfl
  · obtain ⟨v, rfl, hv, k⟩ := h
    refine ⟨_, (pss_one (ps_ret (pe_callD D_is_integer (hr.mono (by decide)) passL (pa_cons (pv 0) (pa_cons pe_int (pa_cons pe_int pa_nil)))))), ?_⟩
    walk_at "w"
    exact ⟨v, 2, 4, rfl, hv, k⟩
theorem sc_is_depth : FnScope ["thing"] ["thing"] (defScope s_is_depth) := ⟨rfl, rfl, rfl, by decide +kernel, rfl, by decide +kernel, by decide +kernel⟩
theorem ok_is_depth {c : Adr} (T : Txt K mg c) (F : At K mg "is_depth" "is_depth" s_is_depth) (D_is_integer : DefOk P w K mg base 1 "is_integer" ["thing", "low", "high"] sp_is_integer) : DefOk P w K mg base 2 "is_depth" ["thing"] sp_is_depth := by
  refine DefOk.of F sc_is_depth (fun _ _ _ _ _ _ us hl => match us, hl with | [_], _ => rfl) (fun vs H Q E h => ?_) (fun f cdv A outer s H vs Q E hr h => ?_)
  · obtain ⟨v, rfl, _⟩ := h
    rfl
  · obtain ⟨v, rfl, hv, k⟩ := h
    refine ⟨_, (pss_one (ps_ret (pe_callD D_is_integer (hr.mono (by decide)) passL (pa_cons (pv 0) (pa_cons pe_int (pa_cons pe_int pa_nil)))))), ?_⟩
    walk_at "w"
    exact ⟨v, 1, 6, rfl, hv, k⟩
theorem sc_prefixes : FnScope ["string", "size"] ["string"] (defScope s_prefixes) := ⟨rfl, rfl, rfl, by decide +kernel, rfl, by decide +kernel, by decide +kernel⟩
theorem ok_prefixes {c : Adr} (T : Txt K mg c) (F : At K mg "prefixes" "prefixes" s_prefixes) : DefOk P w K mg base 1 "prefixes" ["string"] sp_prefixes := by
  refine DefOk.of F sc_prefixes (fun _ _ _ _ _ _ us hl => match us, hl with | [_], _ => rfl) (fun vs H Q E h => ?_) (fun f cdv A outer s H vs Q E hr h => ?_)
  · obtain ⟨s, rfl, _⟩ := h
    rfl
  · obtain ⟨z, rfl, hz, k⟩ := h
    refine ⟨_, (pss_one (ps_ret (pe_lc (own := [("size", 1)]) (g := gName 1) (tt := tYes) (by rfl) sc_prefixes.nd (pi_range1 (by rfl) T.b_range (pa_cons (pe_callB (cr_len (K := K)) (by rfl) T.b_len (by decide +kernel) (pa_cons (pv 0) pa_nil)) pa_nil)) (blkOk_by (N := ["string", "size"]) (sc := defScope s_prefixes) (by decide +kernel))
    (fun _ _ _ _ _ => (pg_name (i := 1) sc_prefixes.nd rfl (Or.inl rfl))) (fun _ _ _ _ _ => pts_nil) (fun _ _ _ _ _ => (pe_slice sl_str (pv 0) po_none (po_some (pv 1))))))), ?_⟩
    walk_at "w"
    refine w_lenS (line1000 (by omega)) ?_
    walk_at "w"
    refine w_exR1 (by omega) (by omega) ?_
    intro D hD
    refine lc_rngM (fun i => .str (cutS z none (some (i : Nat)))) (by omega) hD (fun i H' Ky hi s1 ky => ?_) (fun H' s e => ?_)
    · walk_at "w"
      refine w_slS (line1000 (by omega)) ?_
      have e0 : (0 : Int) + (i : Nat) = (i : Nat) := by omega
      rw [e0]
      exact ky _ (Same.refl _)
    · refine k D H' hD s ?_
      rw [e]
      congr 2
      unfold props
      rw [List.map_map]
      have e1 : (Int.toNat (z.length : Nat)) = z.length := by omega
      rw [e1]
      rfl
theorem sc_is_prefix_free : FnScope ["strings", "present", "string", "prefix"] ["strings"] (defScope s_is_prefix_free) := ⟨rfl, rfl, rfl, by decide +kernel, rfl, by decide +kernel, by decide +kernel⟩
theorem ok_is_prefix_free {c : Adr} (T : Txt K mg c) (F : At K mg "is_prefix_free" "is_prefix_free" s_is_prefix_free) (D_prefixes : DefOk P w K mg base 1 "prefixes" ["string"] sp_prefixes) : DefOk P w K mg base 2 "is_prefix_free" ["strings"] (sp_is_prefix_free K) := by
  refine DefOk.of F sc_is_prefix_free (fun _ _ _ _ _ _ us hl => match us, hl with | [_], _ => rfl) (fun vs H Q E h => ?_) (fun f cdv A outer s H vs Q E hr h => ?_)
  · obtain ⟨a, xs, rfl, _⟩ := h
    rfl
  · obtain ⟨a, xs, rfl, ha, hl, hx, k⟩ := h
    refine ⟨_, (pss_cons (ps_set (i := 1) sc_is_prefix_free.nd rfl (Or.inr rfl) (pe_dc (own := [("string", 2)]) (g := gName 2) (tt := tYes) (by rfl) sc_is_prefix_free.nd (piL (K := K) (pv 0)) (blkOk_by (N := ["strings", "present", "string", "prefix"]) (sc := defScope s_is_prefix_free) (by decide +kernel))
    (fun _ _ _ _ _ => (pg_name (i := 2) sc_is_prefix_free.nd rfl (Or.inl rfl))) (fun _ _ _ _ _ => pts_nil) (fun _ _ _ _ _ => (pv 2)) (fun _ _ _ _ _ => pe_bl)))
    (pss_cons (ps_if (pt_cmpR op_lt (pe_callB cr_lenD (by rfl) T.b_len (by decide +kernel) (pa_cons (pv 1) pa_nil)) (pe_callB (cr_len (K := K)) (by rfl) T.b_len (by decide +kernel) (pa_cons (pv 0) pa_nil)) (nomark _)) (pss_one (ps_ret pe_bl))
      pss_nil)
    (pss_one (ps_ret (pe_not (pe_callB (crAny (K := K) rfl) (by rfl) T.b_any (by decide +kernel) (pa_cons (pe_lc2 (own := [("string", 2), ("prefix", 3)]) (vs1 := [3]) (g := gName 2) (g1 := gName 3) (tt := tYes) (tt1 := tYes) (by rfl) sc_is_prefix_free.nd (piL (K := K) (pv 0)) (blkOk_by (N := ["strings", "present", "string", "prefix"]) (sc := defScope s_is_prefix_free) (by decide +kernel)) (by decide)
    (fun _ _ _ _ _ => (pg_name (i := 2) sc_is_prefix_free.nd rfl (Or.inl rfl))) (fun _ _ _ _ _ => pts_nil) (fun _ _ _ _ _ => (piL (K := K) (pe_callD D_prefixes (hr.mono (by decide)) passL (pa_cons (pv 2) pa_nil)))) (fun _ _ _ _ _ => (pg_name (i := 3) sc_is_prefix_free.nd rfl (Or.inl rfl))) (fun _ _ _ _ _ => pts_nil) (fun _ _ _ _ _ => (pe_cmp (pc_din hr.units1 (pv 3) (pv 1))))) pa_nil))))))), ?_⟩
    walk_at "w"
    refine w_exL ha ?_
    intro D hD
    refine dc_pure (walk_list (K := K) (a := a) (xs := xs.map V.str)) (fun i => (xs[i]?).map fun x => (keyS x, V.bl true)) (by rw [List.length_map]; omega) hD (fun H' s => s.seq ha) (fun i H' x H2 y => by obtain ⟨e, _⟩ := y; rw [e]; exact Same.refl _) ?_ ?_
    · rintro i v H' H2 Ky Kn hi s1 ⟨rfl, hv⟩ ky kn
      obtain ⟨x, ex, rfl⟩ := getElem?_map_inv hv
      walk_at "w"
      exact ky (keyS x) (.bl true) _ (Same.refl _) (by rw [ex]; rfl)
    · intro H1 s1 hd
      have en : (List.range (xs.map V.str).length).filterMap (fun i => (xs[i]?).map fun x => (keyS x, V.bl true)) = xs.map fun x => (keyS x, V.bl true) := by rw [List.length_map]; exact fm_map _ _
      rw [en] at hd
      have hlen : (mergeK [] (xs.map fun x => (keyS x, V.bl true))).length ≤ xs.length := by
        have := mergeK_len (kvs := xs.map fun x => (keyS x, V.bl true)) (acc := [])
        simpa using this
      have hkeys : ∀ p : Str, (valV (mergeK [] (xs.map fun x => (keyS x, V.bl true))) (keyS p)).isSome = decide (p ∈ xs) := fun p => by
        rw [valV_isSome, Bool.eq_iff_iff, decide_eq_true_iff, decide_eq_true_iff, mergeK_keys, List.map_map]
        simp only [List.map_nil, List.not_mem_nil, false_or]
        exact mem_keyS
      have hfull : decide ((mergeK [] (xs.map fun x => (keyS x, V.bl true))).length < xs.length) = !decide xs.Nodup := by
        by_cases nd : xs.Nodup
        · rw [decide_eq_true nd]
          have n2 : (([] ++ xs.map fun x => (keyS x, V.bl true) : List (Key × V)).map (·.1)).Nodup := by
            rw [List.nil_append, List.map_map]; exact nodup_keyS.mpr nd
          rw [mergeK_nodup n2]
          simp
        · rw [decide_eq_false nd]
          have : (mergeK [] (xs.map fun x => (keyS x, V.bl true))).length ≠ xs.length := fun e => nd (by
            have := mergeK_full (kvs := xs.map fun x => (keyS x, V.bl true)) (acc := []) (by simp) (by simpa using e)
            rw [List.nil_append, List.map_map] at this
            exact nodup_keyS.mp this)
          rw [decide_eq_true (by omega)]
          rfl
      generalize mergeK [] (xs.map fun x => (keyS x, V.bl true)) = kvs at hd hlen hkeys hfull
      walk_at "w"
      refine w_lenD hd ?_
      walk_at "w"
      refine w_lenL (s1.seq ha) ?_
      walk_at "w"
      rw [List.length_map]
      have hi : decide ((kvs.length : Int) < (xs.length : Nat)) = !decide xs.Nodup := by rw [← hfull]; congr 1; apply propext; omega
      rw [hi]
      refine ifNB (fun h1 => ?_) (fun h1 => ?_)
      · walk_at "w"
        have e : pfB xs = false := by unfold pfB; rw [h1]; rfl
        rw [← e]
        exact k _ s1
      · walk_at "w"
        refine w_exL (s1.seq ha) ?_
        intro D2 hD2
        refine lc2_M (walk_list (K := K) (a := a) (xs := xs.map V.str)) (fun v => match v with | .str s => (props s).map fun p => .bl (decide (p ∈ xs)) | _ => []) hD2 (fun H' s => (s1.trans s).seq ha) ?_ ?_
        · intro v H' acc N hv s2 eD hz kN
          obtain ⟨x, hxm, rfl⟩ := List.mem_map.mp hv
          walk_at "w"
          refine ⟨x, rfl, hx x hxm, fun q H3 hq s3 h3 => ?_⟩
          refine w_exL (.of h3) ?_
          have hne : q ≠ D2 := fun z => by rw [z, eD] at hq; cases hq
          refine inner_M (walk_list (K := K) (a := q) (xs := (props x).map V.str)) (fun v => match v with | .str p => .bl (decide (p ∈ xs)) | _ => .non) acc ?_ (s3 _ _ eD) (fun H4 kp => .of (kp_at kp (by simpa using hne) h3)) ?_ ?_
          · have l1 := flat_len (xs := xs.map V.str) (f := fun v => match v with | .str s => (props s).map fun p => V.bl (decide (p ∈ xs)) | _ => []) (m := 500) (fun y hy => by
              obtain ⟨z, hz, rfl⟩ := List.mem_map.mp hy
              show ((props z).map _).length ≤ 500
              rw [List.length_map, props_len]; exact hx z hz)
            rw [List.length_map] at l1
            have l2 := hx x hxm
            rw [List.length_map, props_len]
            omega
          · intro y H4 Ky hy kp ky
            obtain ⟨p, hp, rfl⟩ := List.mem_map.mp hy
            walk_at "w"
            have hne2 : ∀ {b o}, H1 b = some o → b ≠ D2 := fun {b o} e z => by rw [z, hD2] at e; cases e
            refine g_in (n := id) (keyS p) (kp_at kp (by simpa using hne2 hd) (s3 _ _ (s2 _ _ hd))) rfl ?_
            rw [hkeys]
            exact ky _ (Same.refl _)
          · intro H4 kp e4
            refine kN _ _ s3 kp ?_
            rw [e4, List.map_map]
            rfl
        · intro H2 s2 e2
          walk_at "w"
          have e3 : (xs.map V.str).flatMap (fun v => match v with | .str s => (props s).map fun p => V.bl (decide (p ∈ xs)) | _ => []) = (xs.flatMap fun s => (props s).map fun p => decide (p ∈ xs)).map V.bl := by
            rw [List.flatMap_map, List.map_flatMap]
            congr 1
            funext s
            show (props s).map _ = _
            rw [List.map_map]
            rfl
          rw [e3] at e2
          refine w_any (.of e2) ?_
          walk_at "w"
          have e : pfB xs = !((xs.flatMap fun s => (props s).map fun p => decide (p ∈ xs)).any id) := by
            unfold pfB
            rw [h1, Bool.true_and]
            congr 1
            rw [List.any_flatMap]
            congr 1
            funext s
            rw [List.any_map]
            rfl
          rw [← e]
          exact k _ (s1.trans s2)
theorem sc_is_words : FnScope ["radix", "depth", "thing", "name", "string"] ["radix", "depth", "thing"] (defScope s_is_words) := ⟨rfl, rfl, rfl, by decide +kernel, rfl, by decide +kernel, by decide +kernel⟩
theorem ok_is_words {c : Adr} (T : Txt K mg c) (F : At K mg "is_words" "is_words" s_is_words) (D_is_name : DefOk P w K mg base 1 "is_name" ["thing"] sp_is_name) (D_is_codeword : DefOk P w K mg base 1 "is_codeword" ["radix", "depth", "thing"] sp_is_codeword) : DefOk P w K mg base 2 "is_words" ["radix", "depth", "thing"] sp_is_words := by
  refine DefOk.of F sc_is_words (fun _ _ _ _ _ _ us hl => match us, hl with | [_, _, _], _ => rfl) (fun vs H Q E h => ?_) (fun f cdv A outer s H vs Q E hr h => ?_)
  · obtain ⟨r, h, v, rfl, _⟩ := h
    rfl
  · obtain ⟨r, h, v, rfl, r2, r4, hv, k⟩ := h
    rcases Bool.eq_false_or_eq_true (isD H v) with hd | hd
    · cases hv with
      | dK hA hz hk hx =>
        rename_i a kvs
        refine ⟨_, (pss_cons (ps_if (pt_not (pt_val (pe_callB (cr_isi (K := K)) (by rfl) T.b_isinstance (by decide +kernel) (pa_cons (pv 2) (pa_cons (pe_ty "dict" T.b_dict (by decide +kernel)) pa_nil))))) (pss_one (ps_ret pe_bl))
      pss_nil)
    (pss_one (ps_ret (pe_callB (crAll (K := K) rfl) (by rfl) T.b_all (by decide +kernel) (pa_cons (pe_lock (pe_lc (own := [("name", 3), ("string", 4)]) (tt := tYes) (by rfl) sc_is_words.nd (pi_items (pv 2)) (blkOk_by (N := ["radix", "depth", "thing", "name", "string"]) (sc := defScope s_is_words) (by decide +kernel))
    (fun _ _ _ _ _ => (pg_tupK (K := K) (n := 2) rfl (pgs_cons (pg_name (i := 3) sc_is_words.nd rfl (Or.inl rfl)) (pgs_cons (pg_name (i := 4) sc_is_words.nd rfl (Or.inl rfl)) pgs_nil)))) (fun _ _ _ _ _ => pts_nil) (fun _ _ _ _ _ => (pe_and (pe_callD D_is_name (hr.mono (by decide)) passL (pa_cons (pv 3) pa_nil)) (pe_one (pe_callD D_is_codeword (hr.mono (by decide)) passL (pa_cons (pv 0) (pa_cons (pv 1) (pa_cons (pv 4) pa_nil))))))))) pa_nil))))), ?_⟩
        walk_at "w"
        refine isi_dict (.dK hA hz hk hx) ?_
        rw [hd]
        walk_at "w"
        refine w_lockE hA trivial (fun od => ?_)
        walk_at "w"
        refine ⟨a, od, kvs, rfl, upd_same, fun D hD => ?_⟩
        have ne : D ≠ a := fun z => by rw [z, upd_same] at hD; cases hD
        refine lc_itemsM (fun k v => .bl (isName (kV k) && isCode r h v)) upd_same (by omega) hD (fun k v T H' Ky hm s1 hT ky => ?_) (fun H' s e => ?_)
        · walk_at "w"
          refine w_gtup (.of hT) rfl ?_
          walk_at "w"
          have shk : ShV H' (kV k) := by
            cases k with
            | inl i => exact .int i
            | inr x => exact .str x (hk _ hm)
          have shv : ShV H' v := ((hx _ hm).sh.lock hA).keep s1
          refine ⟨_, rfl, shk, fun H2 s2 => ?_⟩
          walk_at "w"
          refine ifB (fun h1 => ?_) (fun h1 => ?_)
          · walk_at "w"
            refine ⟨r, h, v, rfl, r2, r4, shv.keep s2, fun H3 s3 => ?_⟩
            rw [h1] at ky
            exact ky _ (s2.trans s3)
          · walk_at "w"
            rw [h1] at ky
            exact ky _ s2
        · walk_at "w"
          have e2 : H' D = some (.lst ((kvs.map fun kv => isName (kV kv.1) && isCode r h kv.2).map V.bl)) := by rw [e, List.map_map]; rfl
          refine ⟨s _ _ upd_same, ?_⟩
          walk_at "w"
          refine w_all (.of (by rw [upd_ne ne]; exact e2)) ?_
          have ee : wordsB H r h (.ref a) = (kvs.map fun kv => isName (kV kv.1) && isCode r h kv.2).all id := by
            unfold wordsB
            simp only [hA, List.all_map]
            rfl
          rw [← ee]
          exact k _ (frz_back hA s)
      | _ => exfalso; simp_all [isD]
    · refine ⟨_, (pss_cons (ps_if (pt_not (pt_val (pe_callB (cr_isi (K := K)) (by rfl) T.b_isinstance (by decide +kernel) (pa_cons (pv 2) (pa_cons (pe_ty "dict" T.b_dict (by decide +kernel)) pa_nil))))) (pss_one (ps_ret pe_bl))
      pss_nil)
    (pss_one (ps_ret (pe_callB (crAll (K := K) rfl) (by rfl) T.b_all (by decide +kernel) (pa_cons (pe_lock (pe_lc (own := [("name", 3), ("string", 4)]) (tt := tYes) (by rfl) sc_is_words.nd (pi_items (pv 2)) (blkOk_by (N := ["radix", "depth", "thing", "name", "string"]) (sc := defScope s_is_words) (by decide +kernel))
    (fun _ _ _ _ _ => (pg_tupK (K := K) (n := 2) rfl (pgs_cons (pg_name (i := 3) sc_is_words.nd rfl (Or.inl rfl)) (pgs_cons (pg_name (i := 4) sc_is_words.nd rfl (Or.inl rfl)) pgs_nil)))) (fun _ _ _ _ _ => pts_nil) (fun _ _ _ _ _ => (pe_and (pe_callD D_is_name (hr.mono (by decide)) passL (pa_cons (pv 3) pa_nil)) (pe_one (pe_callD D_is_codeword (hr.mono (by decide)) passL (pa_cons (pv 0) (pa_cons (pv 1) (pa_cons (pv 4) pa_nil))))))))) pa_nil))))), ?_⟩
      walk_at "w"
      refine isi_dict hv ?_
      rw [hd]
      walk_at "w"
      have ee : wordsB H r h v = false := by
        cases hv <;> simp_all [isD, wordsB]
      rw [← ee]
      exact k _ (Same.refl _)
theorem sc_is_codebook : FnScope ["radix", "depth", "words", "reserved", "string"] ["radix", "depth", "words", "reserved"] (defScope s_is_codebook) := ⟨rfl, rfl, rfl, by decide +kernel, rfl, by decide +kernel, by decide +kernel⟩
theorem ok_is_codebook {c : Adr} (T : Txt K mg c) (F : At K mg "is_codebook" "is_codebook" s_is_codebook) (D_is_prefix_free : DefOk P w K mg base 2 "is_prefix_free" ["strings"] (sp_is_prefix_free K)) (D_is_radix : DefOk P w K mg base 2 "is_radix" ["thing"] sp_is_radix) (D_is_depth : DefOk P w K mg base 2 "is_depth" ["thing"] sp_is_depth) (D_is_words : DefOk P w K mg base 2 "is_words" ["radix", "depth", "thing"] sp_is_words) (D_is_codeword : DefOk P w K mg base 1 "is_codeword" ["radix", "depth", "thing"] sp_is_codeword) : DefOk P w K mg base 3 "is_codebook" ["radix", "depth", "words", "reserved"] (sp_is_codebook K) := by
  refine DefOk.of F sc_is_codebook (fun _ _ _ _ _ _ us hl => match us, hl with | [_, _, _, _], _ => rfl) (fun vs H Q E h => ?_) (fun f cdv A outer s H vs Q E hr h => ?_)
  · obtain ⟨r, d, wv, sv, os, rfl, _⟩ := h
    rfl
  · obtain ⟨r, d, wv, sv, os, rfl, hr1, hd1, hw1, hs1, k⟩ := h
    refine ⟨_, (pss_cut (ps_if (PW.pt (pw_or (pt_not (pt_val (pe_callD D_is_radix (hr.mono (by decide)) passL (pa_cons (pv 0) pa_nil)))) (pw_or (pt_not (pt_val (pe_callD D_is_depth (hr.mono (by decide)) passL (pa_cons (pv 1) pa_nil)))) (pw_or1 (pt_not (pt_val (pe_callD D_is_words (hr.mono (by decide)) passL (pa_cons (pv 0) (pa_cons (pv 1) (pa_cons (pv 2) pa_nil)))))))))) (pss_one (ps_ret pe_bl))
      pss_nil)
    (pss_cons (ps_if (pt_not (pt_val (pe_callB (cr_isiT (K := K)) (by rfl) T.b_isinstance (by decide +kernel) (pa_cons (pv 3) (pa_cons (pe_tupN (pa_cons (pe_ty "tuple" T.b_tuple (by decide +kernel)) (pa_cons (pe_ty "list" T.b_list (by decide +kernel)) pa_nil))) pa_nil))))) (pss_one (ps_ret pe_bl))
      pss_nil)
    (pss_cons (ps_if (pt_not (pt_val (pe_callB (crAll (K := K) rfl) (by rfl) T.b_all (by decide +kernel) (pa_cons (pe_lc (own := [("string", 4)]) (g := gName 4) (tt := tYes) (by rfl) sc_is_codebook.nd (piS (K := K) (pv 3)) (blkOk_by (N := ["radix", "depth", "words", "reserved", "string"]) (sc := defScope s_is_codebook) (by decide +kernel))
    (fun _ _ _ _ _ => (pg_name (i := 4) sc_is_codebook.nd rfl (Or.inl rfl))) (fun _ _ _ _ _ => pts_nil) (fun _ _ _ _ _ => (pe_callD D_is_codeword (hr.mono (by decide)) passL (pa_cons (pv 0) (pa_cons (pv 1) (pa_cons (pv 4) pa_nil)))))) pa_nil)))) (pss_one (ps_ret pe_bl))
      pss_nil)
    (pss_one (ps_ret (pe_callD D_is_prefix_free (hr.mono (by decide)) passL (pa_cons (pe_op op_cat (pe_listVals rfl T.b_list (pv 2)) (pe_callTy (cr_listOf (K := K)) (by rfl) T.b_list (by decide +kernel) (pa_cons (pv 3) pa_nil))) pa_nil))))))), ?_⟩
    refine w_cut (fun σ' H' => Same H H' ∧ isBetw 2 4 r = true ∧ isBetw 1 6 d = true ∧ wordsB H (iOf r) (iOf d) wv = true ∧ σ' = [some r, some d, some wv, some sv, none]) ?_ ?_
    · walk_at "w"
      refine ⟨r, rfl, hr1.sh, fun H1 s1 => ?_⟩
      walk_at "w"
      refine ifNB (fun h1 => ?_) (fun h1 => ?_)
      · walk_at "w"
        have e : cbL H r d wv os = false := by unfold cbL; rw [h1]; rfl
        rw [← e]
        exact k _ s1
      walk_at "w"
      refine ⟨d, rfl, (hd1.keep s1).sh, fun H2 s2 => ?_⟩
      walk_at "w"
      refine ifNB (fun h2 => ?_) (fun h2 => ?_)
      · walk_at "w"
        have e : cbL H r d wv os = false := by unfold cbL; rw [h1, h2]; rfl
        rw [← e]
        exact k _ (s1.trans s2)
      walk_at "w"
      obtain ⟨ri, rfl, r2, r4⟩ := isBetw_int h1
      obtain ⟨di, rfl, _⟩ := isBetw_int h2
      have eW : wordsB H2 ri di wv = wordsB H ri di wv := by
        have s := s1.trans s2
        cases hw1 with
        | lst h _ _ => simp only [wordsB, h, s _ _ h]
        | tup h _ _ => simp only [wordsB, h, s _ _ h]
        | dK h _ _ _ => simp only [wordsB, h, s _ _ h]
        | _ => rfl
      refine ⟨ri, di, wv, rfl, r2, r4, hw1.keep (s1.trans s2), fun H3 s3 => ?_⟩
      rw [eW]
      walk_at "w"
      refine ifNB (fun h3 => ?_) (fun h3 => ?_)
      · walk_at "w"
        have e : cbL H (.int ri) (.int di) wv os = false := by
          unfold cbL
          rw [h1, h2]
          cases hdo : dictOf H wv with
          | none => rfl
          | some kvs =>
            have : (kvs.all fun kv => isName (kV kv.1) && isCode ri di kv.2) = false := by
              have e : wordsB H ri di wv = kvs.all fun kv => isName (kV kv.1) && isCode ri di kv.2 := by
                cases wv with
                | ref a =>
                  have hdo' : (match H a with | some (.dK kvs) => some kvs | _ => none) = some kvs := hdo
                  split at hdo'
                  · rename_i kvs' hk
                    cases hdo'
                    simp only [wordsB, hk]
                  · cases hdo'
                | _ => cases hdo
              rw [← e]; exact h3
            cases os with
            | none => rfl
            | some ys =>
              show (_ && ((kvs.all fun kv => isName (kV kv.1) && isCode ri di kv.2) && _ && _)) = false
              rw [this]
              rfl
        rw [← e]
        exact k _ (s1.trans (s2.trans s3))
      · walk_at "w"
        exact ⟨s1.trans (s2.trans s3), h1, h2, h3, rfl⟩
    · rintro σ' H1 ⟨s1, h1, h2, h3, rfl⟩
      obtain ⟨ri, rfl, r2, r4⟩ := isBetw_int h1
      obtain ⟨di, rfl, d1, d6⟩ := isBetw_int h2
      obtain ⟨kvs, ed, ⟨a, rfl, ha⟩, hkv⟩ := words_dict h3
      have hkv : (kvs.all fun kv => isName (kV kv.1) && isCode ri di kv.2) = true := hkv
      walk_at "w"
      intro T1 H2 hT1 s2 hT2
      walk_at "w"
      refine ((hs1.keep s1).keep s2).tl hT2 ?_
      walk_at "w"
      cases os with
      | none =>
        refine iteNT ?_
        walk_at "w"
        have e : cbL H (.int ri) (.int di) (.ref a) none = false := by
          unfold cbL
          rw [ed]
          simp
        rw [← e]
        exact k _ (s1.trans s2)
      | some ys =>
      obtain ⟨b, rfl, sq, yz, hy⟩ := hs1.sq
      obtain ⟨kz, hkk, hkx⟩ := hw1.dict ha
      refine iteNF ?_
      walk_at "w"
      refine w_exSq (sq.keep (s1.trans s2)) (fun J G wk hG => ?_)
      intro D hD
      refine lc_seqM wk (fun v => .bl (isCode ri di v)) (by omega) hD hG (fun v H3 Ky hv s3 ky => ?_) (fun H3 s3 e3 => ?_)
      · walk_at "w"
        exact ⟨ri, di, v, rfl, r2, r4, ((hy v hv).keep (s1.trans (s2.trans s3))).sh, fun H4 s4 => ky _ s4⟩
      · walk_at "w"
        have e4 : H3 D = some (.lst ((ys.map fun v => isCode ri di v).map V.bl)) := by rw [e3, List.map_map]; rfl
        refine w_all (.of e4) ?_
        walk_at "w"
        have s5 := s1.trans (s2.trans s3)
        have ea : (ys.map fun v => isCode ri di v).all id = ys.all fun v => isCode ri di v := by rw [List.all_map]; rfl
        rw [ea]
        have ecb : cbL H (.int ri) (.int di) (.ref a) (some ys) = ((ys.all fun y => isCode ri di y) && pfB ((kvs.map (·.2) ++ ys).map strOf)) := by
          unfold cbL
          rw [ed, h1, h2]
          show (true && ((kvs.all fun kv => isName (kV kv.1) && isCode ri di kv.2) && (ys.all fun y => isCode ri di y) && pfB ((kvs.map (·.2) ++ ys).map strOf))) = _
          rw [hkv]
          simp
        refine ifNB (fun h5 => ?_) (fun h5 => ?_)
        · walk_at "w"
          have e : cbL H (.int ri) (.int di) (.ref a) (some ys) = false := by rw [ecb, h5]; rfl
          rw [← e]
          exact k _ s5
        walk_at "w"
        refine ⟨a, kvs, rfl, s5 _ _ ha, fun p H6 hp s6 h6 => ?_⟩
        walk_at "w"
        refine w_listOfS (sq.keep (s5.trans s6)) (fun q H7 hq s7 h7 => ?_)
        walk_at "w"
        refine w_cat (s7 _ _ h6) h7 (by simp; omega) (fun t H8 ht s8 h8 => ?_)
        walk_at "w"
        have hall : (kvs.map (·.2) ++ ys).all (fun y => isCode ri di y) = true := by
          rw [List.all_append, h5, Bool.and_true, List.all_map]
          refine List.all_eq_true.mpr fun kv hm => ?_
          have := List.all_eq_true.mp hkv kv hm
          rw [Bool.and_eq_true] at this
          exact this.2
        refine ⟨t, (kvs.map (·.2) ++ ys).map strOf, rfl, .of (by rw [h8, ← codes_str hall]), by simp; omega, fun x hx => by
          have := codes_len hall x hx
          omega, fun H9 s9 => ?_⟩
        have e : cbL H (.int ri) (.int di) (.ref a) (some ys) = pfB ((kvs.map (·.2) ++ ys).map strOf) := by rw [ecb, h5]; rfl
        rw [← e]
        exact k _ (s5.trans (s6.trans (s7.trans (s8.trans s9))))
end

/-! Cc: the codebook. -/
def sp_sorted_words : Sp := fun vs H Q _ => ∃ (a : Addr) (ws : List (Str × Str)), vs = [.ref a] ∧ H a = some (.dK (wd ws)) ∧ (ws.map (·.1)).Nodup ∧ ws.length < 64 ∧ New (.dK (wd (srtW ws))) H Q
theorem pfB_iff {xs : List Str} : pfB xs = true ↔ xs.Nodup ∧ ∀ s ∈ xs, ∀ p ∈ props s, p ∉ xs := by
  unfold pfB
  rw [Bool.and_eq_true, decide_eq_true_iff, Bool.not_eq_true', List.any_eq_false]
  constructor
  · rintro ⟨h1, h2⟩
    refine ⟨h1, fun s hs p hp hx => h2 s hs ?_⟩
    exact List.any_eq_true.mpr ⟨p, hp, decide_eq_true hx⟩
  · rintro ⟨h1, h2⟩
    refine ⟨h1, fun s hs h => ?_⟩
    obtain ⟨p, hp, e⟩ := List.any_eq_true.mp h
    exact h2 s hs p hp (of_decide_eq_true e)
theorem pfB_perm {xs ys : List Str} (h : xs.Perm ys) (e : pfB xs = true) : pfB ys = true := by
  obtain ⟨h1, h2⟩ := pfB_iff.mp e
  exact pfB_iff.mpr ⟨h.nodup_iff.mp h1, fun s hs p hp hx => h2 s (h.mem_iff.mpr hs) p hp (h.mem_iff.mpr hx)⟩
/-- what a codebook's parts are -/
structure Book (r h : Int) (ws : List (Str × Str)) (bl : List Str) : Prop where
  r2 : 2 ≤ r
  r4 : r ≤ 4
  h1 : 1 ≤ h
  h6 : h ≤ 6
  nd : (ws.map (·.1)).Nodup
  nm : ∀ p ∈ ws, isNameS p.1 = true
  cw : ∀ p ∈ ws, isCode r h (.str p.2) = true
  cb : ∀ x ∈ bl, isCode r h (.str x) = true
  pf : pfB (ws.map (·.2) ++ bl) = true
  so : (ws.map (·.1)).Pairwise (fun a b => leS a b = true)
  sb : bl.Pairwise (fun a b => leS a b = true)
  lw : ws.length < 64
  lb : bl.length ≤ 1000
theorem book_of {H : Hp} {r h : Int} {wv : V} {ws : List (Str × Str)} {ss : List Str} (e : cbL H (.int r) (.int h) wv (some (ss.map V.str)) = true) (ed : dictOf H wv = some (wd ws)) (nd : (ws.map (·.1)).Nodup) (hw : ws.length < 64) (hs : ss.length ≤ 1000) : Book r h (srtW ws) (srt ss) := by
  unfold cbL at e
  rw [ed] at e
  have e' : (isBetw 2 4 (.int r) && isBetw 1 6 (.int h) && (((wd ws).all fun kv => isName (kV kv.1) && isCode r h kv.2) && ((ss.map V.str).all fun y => isCode r h y) && pfB (((wd ws).map (·.2) ++ ss.map V.str).map strOf))) = true := e
  simp only [Bool.and_eq_true] at e'
  obtain ⟨⟨a1, a2⟩, ⟨b1, b2⟩, b3⟩ := e'
  obtain ⟨_, q, c1, c2⟩ := isBetw_int a1
  cases q
  obtain ⟨_, q, c3, c4⟩ := isBetw_int a2
  cases q
  have f : ∀ p ∈ ws, isNameS p.1 = true ∧ isCode r h (.str p.2) = true := fun p hp => by
    have := List.all_eq_true.mp b1 (keyS p.1, V.str p.2) (List.mem_map.mpr ⟨p, hp, rfl⟩)
    rw [Bool.and_eq_true] at this
    exact this
  have pw := srtW_perm nd
  have es : ((wd ws).map (·.2) ++ ss.map V.str).map strOf = ws.map (·.2) ++ ss := by
    unfold wd
    rw [List.map_append, List.map_map, List.map_map, List.map_map]
    congr 1
    rw [show (strOf ∘ V.str) = fun x => x from rfl]
    simp
  rw [es] at b3
  exact { r2 := c1, r4 := c2, h1 := c3, h6 := c4, nd := srtW_nodup nd, nm := fun p hp => (f p (pw.mem_iff.mp hp)).1, cw := fun p hp => (f p (pw.mem_iff.mp hp)).2
          cb := fun x hx => List.all_eq_true.mp b2 _ (List.mem_map.mpr ⟨x, srt_mem.mp hx, rfl⟩)
          pf := pfB_perm ((pw.map _).append (srt_perm ss)).symm b3
          so := by rw [srtW_names]; exact srt_pw _
          sb := srt_pw _
          lw := by rw [pw.length_eq]; exact hw
          lb := by rw [srt_len]; exact hs }
theorem code_ok {r h : Int} {x : Str} (r4 : r ≤ 4) (e : isCode r h (.str x) = true) : PyData.strOk x = true := by
  have e' : (decide (1 ≤ x.length) && decide ((x.length : Int) ≤ h) && x.cps.toList.all (isDig r)) = true := e
  simp only [Bool.and_eq_true] at e'
  refine strOk_iff.mpr fun c hc => ?_
  have d := List.all_eq_true.mp e'.2 c hc
  have d' : (decide (48 ≤ c) && decide ((c : Int) < 48 + r)) = true := d
  rw [Bool.and_eq_true, decide_eq_true_iff, decide_eq_true_iff] at d'
  omega
/-- a codebook as it stands at b -/
structure BookAt (c : Adr) (H : Hp) (b : Addr) (r h : Int) (ws : List (Str × Str)) (bl : List Str) : Prop where
  ex : ∃ dx D T, H b = some (.ins c.Codebook dx [("radix", .int r), ("depth", .int h), ("by_name", .ref D), ("blocked", .ref T)]) ∧ H D = some (.dK (wd ws)) ∧ H T = some (.tup (bl.map V.str))
  bk : Book r h ws bl
theorem BookAt.keep {c : Adr} {H H' : Hp} {b : Addr} {r h : Int} {ws : List (Str × Str)} {bl : List Str} (s : Same H H') (k : BookAt c H b r h ws bl) : BookAt c H' b r h ws bl := by
  obtain ⟨⟨dx, D, T, h1, h2, h3⟩, bk⟩ := k
  exact ⟨⟨dx, D, T, s _ _ h1, s _ _ h2, s _ _ h3⟩, bk⟩
def sp_init (K : PySem.W.Frag) (c : Adr) : Sp := fun vs H Q E => ∃ (x dx : Addr) (r d wv sv : V) (os : Option (List V)), vs = [.ref x, r, d, wv, sv] ∧ H x = some (.ins c.Codebook dx []) ∧ AnyV H r ∧ AnyV H d ∧ AnyV H wv ∧ ArgS K H sv os ∧
  (cbL H r d wv os = false → ∀ H', Same H H' → E (.ref c.InvalidCodebook) none H') ∧
  (cbL H r d wv os = true → ∃ (ri di : Int) (a : Addr) (ws : List (Str × Str)) (ss : List Str), r = .int ri ∧ d = .int di ∧ wv = .ref a ∧ H a = some (.dK (wd ws)) ∧ (ws.map (·.1)).Nodup ∧ ws.length < 64 ∧ os = some (ss.map V.str) ∧
    ∀ H', Kp [x] H H' → BookAt c (nw (wo [x] H) H') x ri di (srtW ws) (srt ss) → Q .non H')
def sp_words (c : Adr) : Sp := fun vs H Q _ => ∃ b r h ws bl, vs = [.ref b] ∧ BookAt c H b r h ws bl ∧ New (.dK (wd ws)) H Q
def sp_reserved (c : Adr) : Sp := fun vs H Q _ => ∃ b r h ws bl, vs = [.ref b] ∧ BookAt c H b r h ws bl ∧ ∀ T, H T = some (.tup (bl.map V.str)) → Q (.ref T) H
def sp_codeword (c : Adr) : Sp := fun vs H Q E => ∃ b r h ws bl n, vs = [.ref b, n] ∧ BookAt c H b r h ws bl ∧ ShV H n ∧ (∀ x, n = .str x → x ∈ ws.map (·.1) → Q (.str (look ws x)) H) ∧ ((∀ x, n = .str x → x ∉ ws.map (·.1)) → E (.ref c.UnknownName) none H)
def sp_len (c : Adr) : Sp := fun vs H Q _ => ∃ b r h ws bl, vs = [.ref b] ∧ BookAt c H b r h ws bl ∧ Q (.int ws.length) H
def sp_bookeq (c : Adr) : Sp := fun vs H Q _ => ∃ b r h ws bl y, vs = [.ref b, y] ∧ BookAt c H b r h ws bl ∧
  ((∃ b2 r2 h2 ws2 bl2, y = .ref b2 ∧ BookAt c H b2 r2 h2 ws2 bl2 ∧ ∀ H', Same H H' → Q (.bl (decide (r = r2) && decide (h = h2) && eqKV (wd ws) (wd ws2) && decide (bl = bl2))) H') ∨ (AnyV H y ∧ ∀ H', Same H H' → Q (.bl false) H'))
section
variable {P : Program} {w : World} {K : PySem.W.Frag} {mg : Str → Option Value} {base : Heap}
theorem sc_sorted_words : FnScope ["words", "name"] ["words"] (defScope s_sorted_words) := ⟨rfl, rfl, rfl, by decide +kernel, rfl, by decide +kernel, by decide +kernel⟩
theorem ok_sorted_words {c : Adr} (T : Txt K mg c) (F : At K mg "sorted_words" "sorted_words" s_sorted_words) : DefOk P w K mg base 1 "sorted_words" ["words"] sp_sorted_words := by
  refine DefOk.of F sc_sorted_words (fun _ _ _ _ _ _ us hl => match us, hl with | [_], _ => rfl) (fun vs H Q E h => ?_) (fun f cdv A outer s H vs Q E hr h => ?_)
  · obtain ⟨a, ws, rfl, _⟩ := h
    rfl
  · obtain ⟨a, ws, rfl, ha, nd, h64, k⟩ := h
    refine ⟨_, (pss_one (ps_ret (pe_dc (own := [("name", 1)]) (g := gName 1) (tt := tYes) (by rfl) sc_sorted_words.nd (piL (K := K) (pe_callB (cr_sortedDk rfl) (by rfl) T.b_sorted (by decide +kernel) (pa_cons (pv 0) pa_nil))) (blkOk_by (N := ["words", "name"]) (sc := defScope s_sorted_words) (by decide +kernel))
    (fun _ _ _ _ _ => (pg_name (i := 1) sc_sorted_words.nd rfl (Or.inl rfl))) (fun _ _ _ _ _ => pts_nil) (fun _ _ _ _ _ => (pv 1)) (fun _ _ _ _ _ => (pe_dget hr.units1 (pv 0) (pv 1) (fun _ _ => rfl)))))), ?_⟩
    walk_at "w"
    refine w_sortedD (ws.map fun p : Str × Str => p.1) ha (wd_keys ws) (by simpa using h64) (fun ys hp hs p H1 hp1 s1 h1 => ?_)
    have e := srt_of hp hs
    subst e
    refine w_exL (.of h1) ?_
    intro D hD
    refine dc_pure (walk_list (K := K) (a := p) (xs := (srt (ws.map (·.1))).map V.str)) (fun i => ((srt (ws.map (·.1)))[i]?).map fun x => (keyS x, V.str (look ws x))) (by rw [List.length_map, srt_len, List.length_map]; omega) hD (fun H' s => .of (s _ _ h1)) (fun i H' x H2 y => by obtain ⟨e, _⟩ := y; rw [e]; exact Same.refl _) ?_ ?_
    · rintro i v H' H2 Ky Kn hi s2 ⟨rfl, hv⟩ ky kn
      obtain ⟨x, ex, rfl⟩ := getElem?_map_inv hv
      walk_at "w"
      have hx : x ∈ ws.map (·.1) := srt_mem.mp (List.mem_of_getElem? ex)
      refine g_dk (keyS x) (s2 _ _ (s1 _ _ ha)) (val_wd nd hx) rfl ?_
      exact ky (keyS x) _ _ (Same.refl _) (by rw [ex]; rfl)
    · intro H2 s2 e2
      have en : (List.range ((srt (ws.map (·.1))).map V.str).length).filterMap (fun i => ((srt (ws.map (·.1)))[i]?).map fun x => (keyS x, V.str (look ws x))) = wd (srtW ws) := by
        rw [List.length_map, fm_map]
        unfold wd srtW
        rw [List.map_map]
        rfl
      rw [en] at e2
      have nd2 : (([] ++ wd (srtW ws)).map fun p : Key × V => p.1).Nodup := by
        rw [List.nil_append, wd_keys]
        exact nodup_keyS.mpr (srtW_nodup nd)
      rw [mergeK_nodup nd2, List.nil_append] at e2
      exact k D H2 (Same.free s1 hD) (s1.trans s2) e2
theorem sc_Codebook___init__ : FnScope ["self", "radix", "depth", "words", "reserved"] ["self", "radix", "depth", "words", "reserved"] (defScope s_Codebook___init__) := ⟨rfl, rfl, rfl, by decide +kernel, rfl, by decide +kernel, by decide +kernel⟩
theorem ok_Codebook___init__ {c : Adr} (T : Txt K mg c) (F : AtI K mg "Codebook" c.Codebook "Codebook.__init__" s_Codebook___init__ [.ref c.d0_Codebook]) (D_sorted_words : DefOk P w K mg base 1 "sorted_words" ["words"] sp_sorted_words) (D_is_codebook : DefOk P w K mg base 3 "is_codebook" ["radix", "depth", "words", "reserved"] (sp_is_codebook K)) : InitOk P w K mg base 4 "Codebook" c.Codebook "Codebook.__init__" s_Codebook___init__ ["self", "radix", "depth", "words", "reserved"] (sp_init K c) [.ref c.d0_Codebook] := by
  refine InitOk.of F sc_Codebook___init__ (fun vs H Q E h => ?_) (fun f cdv A outer s H vs Q E hr h => ?_)
  · obtain ⟨x, dx, r, d, wv, sv, os, rfl, _⟩ := h
    rfl
  · obtain ⟨x, dx, r, d, wv, sv, os, rfl, hx, hr1, hd1, hw1, hs1, kF, kT⟩ := h
    refine ⟨_, (pss_cons (ps_if (pt_not (pt_val (pe_callD D_is_codebook (hr.mono (by decide)) passL (pa_cons (pv 1) (pa_cons (pv 2) (pa_cons (pv 3) (pa_cons (pv 4) pa_nil))))))) (pss_one (ps_err T.x_InvalidCodebook (takes_of rfl rfl rfl rfl)))
      pss_nil)
    (pss_cons (ps_fld (pv 0) (pv 1) rfl)
    (pss_cons (ps_fld (pv 0) (pv 2) rfl)
    (pss_cons (ps_fld (pv 0) (pe_callD D_sorted_words (hr.mono (by decide)) passL (pa_cons (pv 3) pa_nil)) rfl)
    (pss_one (ps_fld (pv 0) (pe_callTy (cr_tupOf (K := K)) (by rfl) T.b_tuple (by decide +kernel) (pa_cons (pe_callB (cr_sortedA (K := K)) (by rfl) T.b_sorted (by decide +kernel) (pa_cons (pv 4) pa_nil)) pa_nil)) rfl)))))), ?_⟩
    walk_at "w"
    refine ⟨r, d, wv, sv, os, rfl, hr1, hd1, hw1, hs1, fun H1 s1 => ?_⟩
    walk_at "w"
    refine ifNB (fun h4 => ?_) (fun h4 => ?_)
    · walk_at "w"
      exact kF h4 H1 s1
    obtain ⟨ri, di, a, ws, ss, rfl, rfl, rfl, ha, nd, h64, rfl, k⟩ := kT h4
    obtain ⟨b, rfl, sq, yz, hy⟩ := hs1.sq
    have nax : a ≠ x := fun z => by rw [z, hx] at ha; cases ha
    have cl := T.k_Codebook.cl
    walk_at "w"
    refine ⟨x, _, dx, [], rfl, s1 _ _ hx, cl, T.n_Codebook_radix, by first | (show 0 < 1000; omega) | (show 1 < 1000; omega) | (show 2 < 1000; omega) | (show 3 < 1000; omega), ?_⟩
    walk_at "w"
    refine ⟨x, _, dx, _, rfl, upd_same, cl, T.n_Codebook_depth, by first | (show 0 < 1000; omega) | (show 1 < 1000; omega) | (show 2 < 1000; omega) | (show 3 < 1000; omega), ?_⟩
    walk_at "w"
    have kp2 : Kp [x] H (upd (upd H1 x (.ins c.Codebook dx (putF "radix" (.int ri) []))) x (.ins c.Codebook dx (putF "depth" (.int di) (putF "radix" (.int ri) [])))) := kp_put (kp_put (same_wo s1 [x]) List.mem_cons_self) List.mem_cons_self
    have x2 : (upd (upd H1 x (.ins c.Codebook dx (putF "radix" (.int ri) []))) x (.ins c.Codebook dx (putF "depth" (.int di) (putF "radix" (.int ri) [])))) x = some (.ins c.Codebook dx [("radix", .int ri), ("depth", .int di)]) := upd_same
    generalize (upd (upd H1 x (.ins c.Codebook dx (putF "radix" (.int ri) []))) x (.ins c.Codebook dx (putF "depth" (.int di) (putF "radix" (.int ri) [])))) = H2 at kp2 x2
    refine ⟨a, ws, rfl, kp_at kp2 (by simpa using nax) ha, nd, h64, fun D H3 hD s3 h3 => ?_⟩
    have nDx : D ≠ x := fun z => by rw [z, x2] at hD; cases hD
    walk_at "w"
    refine ⟨x, _, dx, _, rfl, s3 _ _ x2, cl, T.n_Codebook_by_name, by first | (show 0 < 1000; omega) | (show 1 < 1000; omega) | (show 2 < 1000; omega) | (show 3 < 1000; omega), ?_⟩
    walk_at "w"
    have kp4 : Kp [x] H (upd H3 x (.ins c.Codebook dx (putF "by_name" (.ref D) [("radix", .int ri), ("depth", .int di)]))) := kp_put (kp2.trans (same_wo s3 [x])) List.mem_cons_self
    have x4 : (upd H3 x (.ins c.Codebook dx (putF "by_name" (.ref D) [("radix", .int ri), ("depth", .int di)]))) x = some (.ins c.Codebook dx [("radix", .int ri), ("depth", .int di), ("by_name", .ref D)]) := upd_same
    have d4 : (upd H3 x (.ins c.Codebook dx (putF "by_name" (.ref D) [("radix", .int ri), ("depth", .int di)]))) D = some (.dK (wd (srtW ws))) := by rw [upd_ne nDx]; exact h3
    generalize (upd H3 x (.ins c.Codebook dx (putF "by_name" (.ref D) [("radix", .int ri), ("depth", .int di)]))) = H4 at kp4 x4 d4
    have sq4 : Sq K H4 b (ss.map V.str) := by
      rcases sq with sq | sq
      · rcases sq with (sq | ⟨o, sq⟩) | sq
        · exact .inl (.of (kp_at kp4 (by simpa using fun z => by rw [z, hx] at sq; cases sq) sq))
        · exact .inl (.inl (.inr ⟨o, kp_at kp4 (by simpa using fun z => by rw [z, hx] at sq; cases sq) sq⟩))
        · exact .inl (.inr sq)
      · rcases sq with (sq | ⟨o, sq⟩) | sq
        · exact .inr (.of (kp_at kp4 (by simpa using fun z => by rw [z, hx] at sq; cases sq) sq))
        · exact .inr (.inl (.inr ⟨o, kp_at kp4 (by simpa using fun z => by rw [z, hx] at sq; cases sq) sq⟩))
        · exact .inr (.inr sq)
    refine w_sortedS sq4 (by simpa using (show (ss.map V.str).length ≤ 1000000 by omega)) (fun ys hp hs q H5 hq s5 h5 => ?_)
    have e := srt_of hp hs
    subst e
    walk_at "w"
    refine w_tupOfL (.of h5) (fun t H6 ht s6 h6 => ?_)
    have ntx : t ≠ x := fun z => by rw [z, s5 _ _ x4] at ht; cases ht
    walk_at "w"
    refine ⟨x, _, dx, _, rfl, s6 _ _ (s5 _ _ x4), cl, T.n_Codebook_blocked, by first | (show 0 < 1000; omega) | (show 1 < 1000; omega) | (show 2 < 1000; omega) | (show 3 < 1000; omega), ?_⟩
    walk_at "w"
    have free : ∀ {b : Addr} {H' : Hp}, Kp [x] H H' → H' b = none → wo [x] H b = none := fun {b H'} kp e => by
      cases q : wo [x] H b with
      | none => rfl
      | some o => have := (wo_some (kp b o q)).2; rw [e] at this; cases this
    have w0 : wo [x] H x = none := by unfold wo; rw [if_pos List.mem_cons_self]
    refine k _ (kp_put (kp4.trans (same_wo (s5.trans s6) [x])) List.mem_cons_self) ⟨⟨dx, D, t, nw_at w0 upd_same, nw_at (free kp2 hD) ?_, nw_at (free (kp4.trans (same_wo s5 [x])) ht) ?_⟩, book_of h4 (by simp only [dictOf, ha]) nd h64 (by simpa using yz)⟩
    · rw [upd_ne nDx]; exact s6 _ _ (s5 _ _ d4)
    · rw [upd_ne ntx]; exact h6
theorem sc_Codebook_words : FnScope ["self"] ["self"] (defScope s_Codebook_words) := ⟨rfl, rfl, rfl, by decide +kernel, rfl, by decide +kernel, by decide +kernel⟩
theorem ok_Codebook_words {c : Adr} (T : Txt K mg c) (F : AtM K c.Codebook "words" "Codebook.words" s_Codebook_words) : MethOk P w K mg base 1 c.Codebook "words" ["self"] (sp_words c) := by
  refine MethOk.of F sc_Codebook_words (fun _ _ _ _ _ _ us hl => match us, hl with | [_], _ => rfl) (fun vs H Q E h => ?_) (fun f cdv A outer s H vs Q E hr h => ?_)
  · obtain ⟨b, r, h, ws, bl, rfl, _⟩ := h
    rfl
  · obtain ⟨b, r, h, ws, bl, rfl, ⟨⟨dx, D, T', h1, h2, h3⟩, bk⟩, k⟩ := h
    refine ⟨_, (pss_one (ps_ret (pe_callTy cr_dictD (by rfl) T.b_dict (by decide +kernel) (pa_cons (pe_fldK (K := K) (pv 0) rfl) pa_nil)))), ?_⟩
    walk_at "w"
    refine ⟨b, _, dx, _, .ref D, rfl, h1, T.k_Codebook.cl, T.n_Codebook_by_name, rfl, ?_⟩
    walk_at "w"
    exact w_dictD h2 k
theorem sc_Codebook_reserved : FnScope ["self"] ["self"] (defScope s_Codebook_reserved) := ⟨rfl, rfl, rfl, by decide +kernel, rfl, by decide +kernel, by decide +kernel⟩
theorem ok_Codebook_reserved {c : Adr} (T : Txt K mg c) (F : AtM K c.Codebook "reserved" "Codebook.reserved" s_Codebook_reserved) : MethOk P w K mg base 1 c.Codebook "reserved" ["self"] (sp_reserved c) := by
  refine MethOk.of F sc_Codebook_reserved (fun _ _ _ _ _ _ us hl => match us, hl with | [_], _ => rfl) (fun vs H Q E h => ?_) (fun f cdv A outer s H vs Q E hr h => ?_)
  · obtain ⟨b, r, h, ws, bl, rfl, _⟩ := h
    rfl
  · obtain ⟨b, r, h, ws, bl, rfl, ⟨⟨dx, D, T', h1, h2, h3⟩, bk⟩, k⟩ := h
    refine ⟨_, (pss_one (ps_ret (pe_fldK (K := K) (pv 0) rfl))), ?_⟩
    walk_at "w"
    exact ⟨b, _, dx, _, .ref T', rfl, h1, T.k_Codebook.cl, T.n_Codebook_blocked, rfl, k T' h3⟩
theorem sc_Codebook___len__ : FnScope ["self"] ["self"] (defScope s_Codebook___len__) := ⟨rfl, rfl, rfl, by decide +kernel, rfl, by decide +kernel, by decide +kernel⟩
theorem ok_Codebook___len__ {c : Adr} (T : Txt K mg c) (F : AtM K c.Codebook "__len__" "Codebook.__len__" s_Codebook___len__) : MethOk P w K mg base 1 c.Codebook "__len__" ["self"] (sp_len c) := by
  refine MethOk.of F sc_Codebook___len__ (fun _ _ _ _ _ _ us hl => match us, hl with | [_], _ => rfl) (fun vs H Q E h => ?_) (fun f cdv A outer s H vs Q E hr h => ?_)
  · obtain ⟨b, r, h, ws, bl, rfl, _⟩ := h
    rfl
  · obtain ⟨b, r, h, ws, bl, rfl, ⟨⟨dx, D, T', h1, h2, h3⟩, bk⟩, k⟩ := h
    refine ⟨_, (pss_one (ps_ret (pe_callB cr_lenD (by rfl) T.b_len (by decide +kernel) (pa_cons (pe_fldK (K := K) (pv 0) rfl) pa_nil)))), ?_⟩
    walk_at "w"
    refine ⟨b, _, dx, _, .ref D, rfl, h1, T.k_Codebook.cl, T.n_Codebook_by_name, rfl, ?_⟩
    walk_at "w"
    refine w_lenD h2 ?_
    have e : (wd ws).length = ws.length := by simp [wd]
    rw [e]
    exact k
theorem sc_Codebook_codeword : FnScope ["self", "name"] ["self", "name"] (defScope s_Codebook_codeword) := ⟨rfl, rfl, rfl, by decide +kernel, rfl, by decide +kernel, by decide +kernel⟩
theorem ok_Codebook_codeword {c : Adr} (T : Txt K mg c) (F : AtM K c.Codebook "codeword" "Codebook.codeword" s_Codebook_codeword) : MethOk P w K mg base 1 c.Codebook "codeword" ["self", "name"] (sp_codeword c) := by
  refine MethOk.of F sc_Codebook_codeword (fun _ _ _ _ _ _ us hl => match us, hl with | [_, _], _ => rfl) (fun vs H Q E h => ?_) (fun f cdv A outer s H vs Q E hr h => ?_)
  · obtain ⟨b, r, h, ws, bl, n, rfl, _⟩ := h
    rfl
  · obtain ⟨b, r, h, ws, bl, n, rfl, ⟨⟨dx, D, T', h1, h2, h3⟩, bk⟩, hn, kT, kF⟩ := h
    refine ⟨_, (pss_cut (ps_if (PW.pt (pw_or (pt_not (pt_val (pe_callB (cr_isi (K := K)) (by rfl) T.b_isinstance (by decide +kernel) (pa_cons (pv 1) (pa_cons (pe_ty "str" T.b_str (by decide +kernel)) pa_nil))))) (pw_or1 (pt_cmp (pc_dnotin hr.units1 (pv 1) (pe_fldK (K := K) (pv 0) rfl)))))) (pss_one (ps_err T.x_UnknownName (takes_of rfl rfl rfl rfl)))
      pss_nil)
    (pss_one (ps_ret (pe_dget hr.units1 (pe_fldK (K := K) (pv 0) rfl) (pv 1) (fun _ _ => rfl))))), ?_⟩
    refine w_cut (fun σ' H' => H' = H ∧ (∃ x, n = .str x ∧ x ∈ ws.map (·.1)) ∧ σ' = [some (.ref b), some n]) ?_ ?_
    · walk_at "w"
      refine sh_str hn ?_
      walk_at "w"
      refine ifNB (fun h4 => ?_) (fun h4 => ?_)
      · walk_at "w"
        exact kF fun x e => by rw [e] at h4; cases h4
      · obtain ⟨x, rfl⟩ := isS_iff.mp h4
        walk_at "w"
        refine ⟨b, _, dx, _, .ref D, rfl, h1, T.k_Codebook.cl, T.n_Codebook_by_name, rfl, ?_⟩
        refine ⟨D, valV (wd ws) (keyS x), rfl, .inl ⟨_, keyS x, .inl h2, rfl, rfl⟩, ?_⟩
        rw [valV_isSome, wd_keys]
        walk_at "w"
        refine ifNB (fun h5 => ?_) (fun h5 => ?_)
        · walk_at "w"
          refine kF fun y e hy => ?_
          cases e
          rw [decide_eq_true (mem_keyS.mpr hy)] at h5
          cases h5
        · walk_at "w"
          exact ⟨rfl, ⟨x, rfl, mem_keyS.mp (of_decide_eq_true h5)⟩, rfl⟩
    · rintro σ' H' ⟨rfl, ⟨x, rfl, hm⟩, rfl⟩
      walk_at "w"
      refine ⟨b, _, dx, _, .ref D, rfl, h1, T.k_Codebook.cl, T.n_Codebook_by_name, rfl, ?_⟩
      walk_at "w"
      exact g_dk (keyS x) h2 (val_wd bk.nd hm) rfl (kT x rfl hm)
theorem flat_eqT {K : PySem.W.Frag} {H : Hp} {a b : Addr} {xs ys : List V} {Q : VK} {n : Bool → Bool} (ha : SqT K H a xs) (hb : SqT K H b ys) (hx : ∀ x ∈ xs, okF x = true ∧ (isS x = true ∨ ∃ i, x = .int i)) (hy : ∀ x ∈ ys, okF x = true ∧ (isS x = true ∨ ∃ i, x = .int i)) (q : Q (.bl (n (decide (xs = ys)))) H) :
    ∃ d e, Dp K H (.ref a) d ∧ Dp K H (.ref b) e ∧ SeqAt.shaped d = true ∧ SeqAt.shaped e = true ∧ Q (.bl (n (PyData.eqv d e))) H := by
  have f : ∀ zs : List V, (∀ x ∈ zs, okF x = true ∧ (isS x = true ∨ ∃ i, x = .int i)) → zs.all okF = true := fun zs h => List.all_eq_true.mpr fun x hm => (h x hm).1
  refine ⟨_, _, .tup ha (dpAll_flat (f xs hx)), .tup hb (dpAll_flat (f ys hy)), shaped_tup (f xs hx), shaped_tup (f ys hy), ?_⟩
  have e : PyData.eqv (.tuple (xs.map fD)) (.tuple (ys.map fD)) = decide (xs = ys) := eqvAll_flat (f xs hx) (f ys hy) (fun x h => (hx x h).2) fun x h => (hy x h).2
  rw [e]
  exact q
theorem flat_eqL {K : PySem.W.Frag} {H : Hp} {a b : Addr} {xs ys : List V} {Q : VK} {n : Bool → Bool} (ha : SqL K H a xs) (hb : SqL K H b ys) (hx : ∀ x ∈ xs, okF x = true ∧ (isS x = true ∨ ∃ i, x = .int i)) (hy : ∀ x ∈ ys, okF x = true ∧ (isS x = true ∨ ∃ i, x = .int i)) (q : Q (.bl (n (decide (xs = ys)))) H) :
    ∃ d e, Dp K H (.ref a) d ∧ Dp K H (.ref b) e ∧ SeqAt.shaped d = true ∧ SeqAt.shaped e = true ∧ Q (.bl (n (PyData.eqv d e))) H := by
  have f : ∀ zs : List V, (∀ x ∈ zs, okF x = true ∧ (isS x = true ∨ ∃ i, x = .int i)) → zs.all okF = true := fun zs h => List.all_eq_true.mpr fun x hm => (h x hm).1
  refine ⟨_, _, .lst ha (dpAll_flat (f xs hx)), .lst hb (dpAll_flat (f ys hy)), shaped_lst (f xs hx), shaped_lst (f ys hy), ?_⟩
  have e : PyData.eqv (.list (xs.map fD)) (.list (ys.map fD)) = decide (xs = ys) := eqvAll_flat (f xs hx) (f ys hy) (fun x h => (hx x h).2) fun x h => (hy x h).2
  rw [e]
  exact q
theorem w_neT {K : PySem.W.Frag} {H : Hp} {a b : Addr} {xs ys : List V} {Q : VK} (ha : SqT K H a xs) (hb : SqT K H b ys) (hx : ∀ x ∈ xs, okF x = true ∧ (isS x = true ∨ ∃ i, x = .int i)) (hy : ∀ x ∈ ys, okF x = true ∧ (isS x = true ∨ ∃ i, x = .int i)) (q : Q (.bl (!decide (xs = ys))) H) : rNeD K (.ref a) (.ref b) H Q := flat_eqT (n := not) ha hb hx hy q
theorem w_eqT {K : PySem.W.Frag} {H : Hp} {a b : Addr} {xs ys : List V} {Q : VK} (ha : SqT K H a xs) (hb : SqT K H b ys) (hx : ∀ x ∈ xs, okF x = true ∧ (isS x = true ∨ ∃ i, x = .int i)) (hy : ∀ x ∈ ys, okF x = true ∧ (isS x = true ∨ ∃ i, x = .int i)) (q : Q (.bl (decide (xs = ys))) H) : rEqD K (.ref a) (.ref b) H Q := flat_eqT (n := id) ha hb hx hy q
theorem w_neLs {K : PySem.W.Frag} {H : Hp} {a b : Addr} {xs ys : List V} {Q : VK} (ha : SqL K H a xs) (hb : SqL K H b ys) (hx : ∀ x ∈ xs, okF x = true ∧ (isS x = true ∨ ∃ i, x = .int i)) (hy : ∀ x ∈ ys, okF x = true ∧ (isS x = true ∨ ∃ i, x = .int i)) (q : Q (.bl (!decide (xs = ys))) H) : rNeD K (.ref a) (.ref b) H Q := flat_eqL (n := not) ha hb hx hy q
theorem w_eqLs {K : PySem.W.Frag} {H : Hp} {a b : Addr} {xs ys : List V} {Q : VK} (ha : SqL K H a xs) (hb : SqL K H b ys) (hx : ∀ x ∈ xs, okF x = true ∧ (isS x = true ∨ ∃ i, x = .int i)) (hy : ∀ x ∈ ys, okF x = true ∧ (isS x = true ∨ ∃ i, x = .int i)) (q : Q (.bl (decide (xs = ys))) H) : rEqD K (.ref a) (.ref b) H Q := flat_eqL (n := id) ha hb hx hy q
theorem strs_ok {xs : List Str} (h : ∀ x ∈ xs, PyData.strOk x = true) : ∀ v ∈ xs.map V.str, okF v = true ∧ (isS v = true ∨ ∃ i, v = .int i) := fun v hv => by
  obtain ⟨x, hx, rfl⟩ := List.mem_map.mp hv
  exact ⟨h x hx, .inl rfl⟩
theorem strs_eq {xs ys : List Str} : decide (xs.map V.str = ys.map V.str) = decide (xs = ys) := by
  congr 1
  apply propext
  constructor
  · intro h
    have := congrArg (List.map strOf) h
    rw [List.map_map, List.map_map] at this
    simpa [show (strOf ∘ V.str) = id from rfl] using this
  · intro h; rw [h]
theorem sc_Codebook___eq__ : FnScope ["self", "other"] ["self", "other"] (defScope s_Codebook___eq__) := ⟨rfl, rfl, rfl, by decide +kernel, rfl, by decide +kernel, by decide +kernel⟩
theorem ok_Codebook___eq__ {c : Adr} (T : Txt K mg c) (F : AtM K c.Codebook "__eq__" "Codebook.__eq__" s_Codebook___eq__) (D_Codebook___init__ : InitOk P w K mg base 4 "Codebook" c.Codebook "Codebook.__init__" s_Codebook___init__ ["self", "radix", "depth", "words", "reserved"] (sp_init K c) [.ref c.d0_Codebook]) : MethOk P w K mg base 1 c.Codebook "__eq__" ["self", "other"] (sp_bookeq c) := by
  refine MethOk.of F sc_Codebook___eq__ (fun _ _ _ _ _ _ us hl => match us, hl with | [_, _], _ => rfl) (fun vs H Q E h => ?_) (fun f cdv A outer s H vs Q E hr h => ?_)
  · obtain ⟨b, r, h, ws, bl, y, rfl, _⟩ := h
    rfl
  · obtain ⟨b, r, h, ws, bl, y, rfl, ⟨⟨dx, D, T', h1, h2, h3⟩, bk⟩, hy⟩ := h
    have cl := T.k_Codebook.cl
    refine ⟨_, (pss_cut (ps_if (PW.pt (pw_or (pt_not (pt_val (pe_callB (cr_isi (K := K)) (by rfl) T.b_isinstance (by decide +kernel) (pa_cons (pv 1) (pa_cons (pe_cls T.k_Codebook) pa_nil))))) (pw_or1 (pt_cmpR (opNeD (K := K) hr.units) (pe_tupN (pa_cons (pe_fldK (K := K) (pv 0) rfl) (pa_cons (pe_fldK (K := K) (pv 0) rfl) pa_nil))) (pe_tupN (pa_cons (pe_fldK (K := K) (pv 1) rfl) (pa_cons (pe_fldK (K := K) (pv 1) rfl) pa_nil))) (nomark _))))) (pss_one (ps_ret pe_bl))
      pss_nil)
    (pss_one (ps_ret (pe_and (pe_cmpR (op_eqKV hr.units0) (pe_fldK (K := K) (pv 0) rfl) (pe_fldK (K := K) (pv 1) rfl) (nomark _)) (pe_one (pe_cmpR (opEqD (K := K) hr.units) (pe_fldK (K := K) (pv 0) rfl) (pe_fldK (K := K) (pv 1) rfl) (nomark _))))))), ?_⟩
    rcases hy with ⟨b2, r2, h2', ws2, bl2, rfl, ⟨⟨dx2, D2, T2, g1, g2, g3⟩, bk2⟩, k⟩ | ⟨hy, k⟩
    · refine w_cut (fun σ' H' => Same H H' ∧ r = r2 ∧ h = h2' ∧ σ' = [some (.ref b), some (.ref b2)]) ?_ ?_
      · walk_at "w"
        refine T.k_Codebook.isi g1 ?_
        walk_at "w"
        refine ⟨b, _, dx, _, .int r, rfl, h1, cl, T.n_Codebook_radix, rfl, ?_⟩
        walk_at "w"
        refine ⟨b, _, dx, _, .int h, rfl, h1, cl, T.n_Codebook_depth, rfl, ?_⟩
        walk_at "w"
        refine fun p H1 hp s1 e1 => ?_
        walk_at "w"
        refine ⟨b2, _, dx2, _, .int r2, rfl, s1 _ _ g1, cl, T.n_Codebook_radix, rfl, ?_⟩
        walk_at "w"
        refine ⟨b2, _, dx2, _, .int h2', rfl, s1 _ _ g1, cl, T.n_Codebook_depth, rfl, ?_⟩
        walk_at "w"
        refine fun q H2 hq s2 e2 => ?_
        walk_at "w"
        refine w_neT (.of (s2 _ _ e1)) (.of e2) (by simp [okF]) (by simp [okF]) ?_
        walk_at "w"
        refine ifNB (fun h5 => ?_) (fun h5 => ?_)
        · walk_at "w"
          have e : (decide (r = r2) && decide (h = h2') && eqKV (wd ws) (wd ws2) && decide (bl = bl2)) = false := by
            by_cases c1 : r = r2
            · by_cases c2 : h = h2'
              · rw [c1, c2] at h5; simp at h5
              · simp [c2]
            · simp [c1]
          rw [← e]
          exact k _ (s1.trans s2)
        · walk_at "w"
          have e := of_decide_eq_true h5
          simp at e
          exact ⟨s1.trans s2, e.1, e.2, rfl⟩
      · rintro σ' H1 ⟨s1, rfl, rfl, rfl⟩
        walk_at "w"
        refine ⟨b, _, dx, _, .ref D, rfl, s1 _ _ h1, cl, T.n_Codebook_by_name, rfl, ?_⟩
        walk_at "w"
        refine ⟨b2, _, dx2, _, .ref D2, rfl, s1 _ _ g1, cl, T.n_Codebook_by_name, rfl, ?_⟩
        refine w_eqK (s1 _ _ h2) (s1 _ _ g2) ?_
        walk_at "w"
        refine ifB (fun h5 => ?_) (fun h5 => ?_)
        · walk_at "w"
          refine ⟨b, _, dx, _, .ref T', rfl, s1 _ _ h1, cl, T.n_Codebook_blocked, rfl, ?_⟩
          walk_at "w"
          refine ⟨b2, _, dx2, _, .ref T2, rfl, s1 _ _ g1, cl, T.n_Codebook_blocked, rfl, ?_⟩
          refine w_eqT (.of (s1 _ _ h3)) (.of (s1 _ _ g3)) (strs_ok fun x hx => code_ok bk.r4 (bk.cb x hx)) (strs_ok fun x hx => code_ok bk2.r4 (bk2.cb x hx)) ?_
          rw [strs_eq]
          have e : (decide (r = r) && decide (h = h) && eqKV (wd ws) (wd ws2) && decide (bl = bl2)) = decide (bl = bl2) := by rw [h5]; simp
          rw [← e]
          exact k _ s1
        · walk_at "w"
          have e : (decide (r = r) && decide (h = h) && eqKV (wd ws) (wd ws2) && decide (bl = bl2)) = false := by rw [h5]; simp
          rw [← e]
          exact k _ s1
    · refine w_cut (fun σ' H' => False) ?_ (fun _ _ z => z.elim)
      walk_at "w"
      refine T.k_Codebook.isi0 hy ?_
      walk_at "w"
      exact k _ (Same.refl _)
theorem argS_nil {H : Hp} {e : Addr} (h : ∀ H, SqT K H e []) : ArgS K H (.ref e) (some []) := by
  rcases h (fun _ => none) with (z | ⟨o, z⟩) | ⟨o, its, n, k, hc, hd, _, r⟩
  · cases z
  · cases z
  · have e : its.toList = [] := by cases hh : its.toList with | nil => rfl | cons a b => rw [hh] at r; cases r
    have e2 : its = #[] := by
      cases its with
      | mk l => have : l = [] := e; rw [this]
    rw [e2] at hd
    exact .dfl k hc hd
/-- what is new since H1 -/
theorem nw_make {H1 H2 H' : Hp} {x : Addr} (s : Same H1 H2) (hx : H1 x = none) : Same (nw (wo [x] H2) H') (nw H1 H') := fun b o h => by
  obtain ⟨h1, h2⟩ := nw_some h
  refine nw_at ?_ h2
  cases e : H1 b with
  | none => rfl
  | some u =>
    have ne : b ∉ [x] := by simpa using ne_of_none e hx
    rw [wo_of ne (s _ _ e)] at h1
    cases h1
theorem any_wd {H : Hp} {a : Addr} {ws : List (Str × Str)} (e : H a = some (.dK (wd ws))) (hz : ws.length ≤ 1000) (h1 : ∀ p ∈ ws, okS p.1 ∧ okS p.2) : AnyV H (.ref a) := by
  refine .dK e (by simp [wd]; exact hz) (fun kv hm => ?_) (fun kv hm => ?_)
  · obtain ⟨p, hp, rfl⟩ := List.mem_map.mp hm
    exact (h1 p hp).1
  · obtain ⟨p, hp, rfl⟩ := List.mem_map.mp hm
    exact .str _ (h1 p hp).2
theorem argS_l {H : Hp} {a : Addr} {ss : List Str} (e : H a = some (.lst (ss.map V.str)) ∨ H a = some (.tup (ss.map V.str))) (hz : ss.length ≤ 1000) (h1 : ∀ x ∈ ss, okS x) : ArgS K H (.ref a) (some (ss.map V.str)) := by
  have items : ∀ v ∈ ss.map V.str, AnyV H v := fun v hv => by
    obtain ⟨x, hx, rfl⟩ := List.mem_map.mp hv
    exact .str x (h1 x hx)
  rcases e with e | e
  · have := ArgS.any (K := K) (AnyV.lst e (by simpa using hz) items)
    simpa only [seqOf, e] using this
  · have := ArgS.any (K := K) (AnyV.tup e (by simpa using hz) items)
    simpa only [seqOf, e] using this
/-- Codebook(radix, depth, words, reserved), Codebook(radix, depth, words) -/
theorem mk_Codebook4 {c : Adr} {k : Nat} {sp : Sp} {st : Stmt} (e : st = s_Codebook___init__) (D : InitOk P w K mg base k "Codebook" c.Codebook "Codebook.__init__" st ["self", "radix", "depth", "words", "reserved"] sp [.ref c.d0_Codebook]) : MakeOk P w K mg base k "Codebook" c.Codebook ["self", "radix", "depth", "words", "reserved"] sp [] := by
  subst e
  exact D.makeD 5 1 (by simp) rfl (fun T kV doc pm an cdv ct us its h1 h2 => match us, its, h1, h2 with | [_, _, _, _, _], [_], _, _ => ⟨_, rfl, rfl⟩)
theorem mk_Codebook3 {c : Adr} {k : Nat} {sp : Sp} {st : Stmt} (e : st = s_Codebook___init__) (D : InitOk P w K mg base k "Codebook" c.Codebook "Codebook.__init__" st ["self", "radix", "depth", "words", "reserved"] sp [.ref c.d0_Codebook]) : MakeOk P w K mg base k "Codebook" c.Codebook ["self", "radix", "depth", "words", "reserved"] sp [.ref c.d0_Codebook] := by
  subst e
  exact D.makeD 4 0 (by simp) rfl (fun T kV doc pm an cdv ct us its h1 h2 => match us, its, h1, h2 with | [_, _, _, _], [_], _, _ => ⟨_, rfl, rfl⟩)
end

/-! Lg: general helpers of the laws' walks: prefixes, pairs laid into dicts, repr, len of an own class, slices. -/
def clashS (a b : Str) : Bool := Txt.startswith a b || Txt.startswith b a

def sp_strings : Sp := fun vs H Q _ => ∃ (p l : Addr) (b : Nat) (r h t : Int), vs = [.ref p, .int r, .int h, .int t] ∧ PenAt b p l H ∧ b + 100000 ≤ 1000000000000 ∧ 2 ≤ r ∧ r ≤ 4 ∧ 1 ≤ h ∧ h ≤ 6 ∧ 0 ≤ t ∧ t ≤ 1000 ∧
  ∀ H' q (xs : List Str), Kp [p] H H' → PenAt (b + 10 * t.toNat) p l H' → H q = none → H' q = some (.lst (xs.map V.str)) → xs.length ≤ t.toNat → (∀ x ∈ xs, isCode r h (.str x) = true) → xs.Pairwise (fun a b => clashS a b = false) → (0 < t → xs ≠ []) → Q (.ref q) H'
theorem dstr {d : Int} (h0 : 0 ≤ d) (h1 : d < 4) : (Str.ofString (toString d)) = ⟨#[48 + d.toNat]⟩ := by
  have h : d = 0 ∨ d = 1 ∨ d = 2 ∨ d = 3 := by omega
  rcases h with rfl | rfl | rfl | rfl <;> decide +kernel
theorem filt_map (f : Str → Bool) (xs : List Str) : (xs.map V.str).filterMap (fun v => match v with | .str x => if f x then some (V.str x) else none | _ => none) = (xs.filter f).map V.str := by
  induction xs with
  | nil => rfl
  | cons x r ih =>
    rw [List.map_cons, List.filterMap_cons, List.filter_cons]
    cases e : f x with
    | true =>
      simp only [e, if_true]
      rw [ih]; rfl
    | false =>
      simp only [e]
      exact ih
/-- an item that is a text with f -/
def pickS (f : Str → Bool) (v : V) : Option V := match v with
  | .str x => if f x then some (.str x) else none
  | _ => none
theorem pick_map (f : Str → Bool) (xs : List Str) : (xs.map V.str).filterMap (pickS f) = (xs.filter f).map V.str := filt_map f xs
theorem pickS_yes {f : Str → Bool} {x : Str} (h : f x = true) : pickS f (.str x) = some (.str x) := by show (if f x = true then some (V.str x) else none) = _; rw [if_pos h]
theorem pickS_no {f : Str → Bool} {x : Str} (h : f x = false) : pickS f (.str x) = none := by show (if f x = true then some (V.str x) else none) = _; rw [h]; rfl
theorem app_sign (z : Str) (c : Nat) : (z ++ ⟨#[c]⟩ : Str).cps.toList = z.cps.toList ++ [c] := tl_append z ⟨#[c]⟩
theorem perm_erase {α : Type} : ∀ {xs : List α} {k : Nat} {y : α}, xs[k]? = some y → xs.Perm (y :: xs.eraseIdx k)
  | [], k, y, h => by simp at h
  | x :: r, 0, y, h => by
    have e : x = y := Option.some.inj h
    subst e
    exact List.Perm.refl _
  | x :: r, k + 1, y, h => by
    have ih := perm_erase (xs := r) (k := k) (y := y) (by simpa using h)
    exact (ih.cons x).trans (List.Perm.swap y x _)
theorem map_erase {α β : Type} (f : α → β) : ∀ (xs : List α) (k : Nat), (xs.map f).eraseIdx k = (xs.eraseIdx k).map f
  | [], _ => rfl
  | _ :: _, 0 => rfl
  | x :: r, k + 1 => by
    show f x :: (r.map f).eraseIdx k = f x :: (r.eraseIdx k).map f
    rw [map_erase f r k]

section
variable {g : TG} {te : TE} {vs : List Nat} {σ : L2.St} {H1 : Hp} {D : Addr} {Qd : Hp → Prop} {J : It} {G : Hp → Prop} {K : PySem.W.Frag}
/-- [(key, value) for x in xs] -/
theorem lc_pairs {xs : List V} (w : Walk J xs.length G (YAt xs)) (fk : V → Key) (fv : V → V) (hn : xs.length ≤ 1000000) (hD : H1 D = none) (hG : ∀ H, Same H1 H → G H)
    (hs : ∀ x H' (Ky : V → Hp → Prop), x ∈ xs → Same H1 H' → (∀ H4, Same H' H4 → New (.tup [kV (fk x), fv x]) H4 Ky) → g x (wipe σ vs) H' fun σ2 H2 => wipe σ2 vs = wipe σ vs ∧ te σ2 H2 Ky)
    (hd : ∀ H' (ps : List Addr), Same H1 H' → H' D = some (.lst (ps.map V.ref)) → Paired (fun p (kv : Key × V) => SqT K H' p [kV kv.1, kv.2]) ps (xs.map fun x => (fk x, fv x)) → Qd H') :
    ∃ W : Nat → Nat → Hp → Prop, (∃ m, W 0 m (upd H1 D (.lst []))) ∧ ∀ i m H, W i m H →
      (J.stop i H ∧ Qd H) ∨ (J.go i H ∧ ∃ Nx : Hp → Prop, (∀ H', Nx H' → ∃ m', m' < m ∧ W (i + 1) m' H') ∧ ∀ x H', J.yld i H x H' → g x (wipe σ vs) H' fun σ2 H2 => wipe σ2 vs = wipe σ vs ∧ tYes σ2 H2 fun b H3 =>
        if b = true then te σ2 H3 fun y H4 => ∃ acc, H4 D = some (.lst acc) ∧ acc.length < sizeLine ∧ Nx (upd H4 D (.lst (acc ++ [y]))) else Nx H3) := by
  refine lc_rel w (fun i v H => ∃ x T, xs[i]? = some x ∧ v = V.ref T ∧ H T = some (.tup [kV (fk x), fv x])) (fun i v H H' s ⟨x, T, h1, h2, h3⟩ => ⟨x, T, h1, h2, s _ _ h3⟩) hn hD hG (fun i H x H' y => by obtain ⟨e, _⟩ := y; rw [e]; exact Same.refl H) ?_ ?_
  · rintro i x H H' Ky hi s1 ⟨o, eD⟩ ⟨rfl, hx⟩ ky
    refine hs x H' Ky (List.mem_of_getElem? hx) s1 (fun H4 s4 p H5 hp s5 h5 => ?_)
    have ne : p ≠ D := fun z => by rw [z, s4 _ _ eD] at hp; cases hp
    exact ky (.ref p) H5 (s4.trans s5) ⟨x, p, hx, rfl, wo_of (by simpa using ne) h5⟩
  · intro ys H hl h s e
    obtain ⟨e1, pr⟩ := pairs_ok (K := K) (H := H) (ys := ys) (kvs := xs.map fun x => (fk x, fv x)) (by rw [List.length_map]; exact hl) (fun i v kv h1 h2 => by
      obtain ⟨x, T, hx, hv, hT⟩ := h i v h1
      rw [List.getElem?_map, hx] at h2
      cases h2
      exact ⟨T, hv, hT⟩)
    rw [e1] at e
    exact hd H _ s e pr
end
theorem cut_of (xs : List V) {a d : Int} (h0 : 0 ≤ a) (h1 : 0 ≤ d) : cutV xs (some a) (some (a + d)) = (xs.drop a.toNat).take d.toNat := by
  obtain ⟨m, rfl⟩ := Int.eq_ofNat_of_zero_le h0
  obtain ⟨n, rfl⟩ := Int.eq_ofNat_of_zero_le h1
  unfold cutV
  rw [show ((m : Int) + (n : Int)) = ((m + n : Nat) : Int) by omega, HT.sIx_nat, HT.sIx_nat]
  simp only [Int.toNat_natCast]
  by_cases h : m ≤ xs.length
  · rw [Nat.min_eq_left h]
    by_cases h2 : m + n ≤ xs.length
    · rw [Nat.min_eq_left h2, Nat.add_sub_cancel_left]
    · rw [Nat.min_eq_right (by omega)]
      rw [List.take_of_length_le (by simp), List.take_of_length_le (by simp; omega)]
  · have e1 : min m xs.length = xs.length := by omega
    rw [e1, List.drop_length, List.drop_of_length_le (by omega)]
    simp
theorem range_getD (l : List Str) : (List.range l.length).map (fun i => l.getD i "") = l := by
  apply List.ext_getElem?
  intro i
  rw [List.getElem?_map]
  by_cases h : i < l.length
  · rw [List.getElem?_range h]
    simp [h]
  · rw [List.getElem?_eq_none (by simp; omega), List.getElem?_eq_none (by omega)]
    rfl
theorem range_take (l : List Str) {n : Nat} (h : n ≤ l.length) : (List.range n).map (fun i => l.getD i "") = l.take n := by
  have e : (l.take n).length = n := by rw [List.length_take]; omega
  have r := range_getD (l.take n)
  rw [e] at r
  rw [← r]
  refine List.map_congr_left fun i hi => ?_
  have hi' := List.mem_range.mp hi
  simp [List.getElem?_take, hi']

theorem starts_iff {x y : Str} : Txt.startswith x y = true ↔ y.cps.toList <+: x.cps.toList := by
  unfold Txt.startswith
  rw [PySem.StrLaws.subAt_eq]
  simp only [Nat.zero_add, Bool.and_eq_true, decide_eq_true_iff, beq_iff_eq, List.drop_zero]
  have hx : x.length = x.cps.toList.length := by simp [Str.length]
  have hy : y.length = y.cps.toList.length := by simp [Str.length]
  rw [hx, hy]
  constructor
  · rintro ⟨_, h⟩
    rw [← h]
    exact List.take_prefix _ _
  · intro h
    exact ⟨h.length_le, (List.prefix_iff_eq_take.mp h).symm⟩
theorem clash_symm (a b : Str) : clashS a b = clashS b a := by unfold clashS; rw [Bool.or_comm]
theorem cutS_take (s : Str) (i : Nat) : (cutS s none (some (i : Nat))).cps.toList = s.cps.toList.take i := by
  unfold cutS
  simp only [HT.sIx_nat, HT.sIx_none, List.drop_zero, Nat.sub_zero]
  have e : s.length = s.cps.toList.length := by simp [Str.length]
  rw [e]
  show s.cps.toList.take (min i s.cps.toList.length) = _
  by_cases h : i ≤ s.cps.toList.length
  · rw [Nat.min_eq_left h]
  · rw [Nat.min_eq_right (Nat.le_of_not_le h), List.take_length, List.take_of_length_le (Nat.le_of_not_le h)]
theorem props_mem {s p : Str} : p ∈ props s ↔ p.cps.toList <+: s.cps.toList ∧ p ≠ s := by
  unfold props
  rw [List.mem_map]
  have hs : s.length = s.cps.toList.length := by simp [Str.length]
  constructor
  · rintro ⟨i, hi, rfl⟩
    have hi' := List.mem_range.mp hi
    refine ⟨by rw [cutS_take]; exact List.take_prefix _ _, fun e => ?_⟩
    have this : (cutS s none (some (i : Nat))).cps.toList.length = s.cps.toList.length := by rw [e]
    rw [cutS_take, List.length_take] at this
    omega
  · rintro ⟨h, ne⟩
    have e := List.prefix_iff_eq_take.mp h
    have hl := h.length_le
    refine ⟨p.cps.toList.length, List.mem_range.mpr ?_, str_ext (by rw [cutS_take]; exact e.symm)⟩
    rw [hs]
    refine Nat.lt_of_le_of_ne hl fun q => ne (str_ext ?_)
    rw [e, q, List.take_length]
theorem clash_self (a : Str) : clashS a a = true := by
  unfold clashS
  rw [starts_iff.mpr (List.prefix_refl _)]
  rfl
/-- no clash, two by two: prefix-free -/
theorem pfB_of_pw {xs : List Str} (h : xs.Pairwise (fun a b => clashS a b = false)) : pfB xs = true := by
  refine pfB_iff.mpr ⟨?_, fun s hs p hp hx => ?_⟩
  · refine h.imp fun c e => ?_
    rw [e, clash_self] at c
    cases c
  · obtain ⟨pre, ne⟩ := props_mem.mp hp
    have c : clashS s p = true := by unfold clashS; rw [starts_iff.mpr pre]; rfl
    have all : ∀ {ys : List Str}, ys.Pairwise (fun a b => clashS a b = false) → s ∈ ys → p ∈ ys → False := by
      intro ys hy
      induction hy with
      | nil => intro h; cases h
      | @cons a r ha _ ih =>
        intro h1 h2
        rcases List.mem_cons.mp h1 with e1 | h1
        · rcases List.mem_cons.mp h2 with e2 | h2
          · exact ne (e2.trans e1.symm)
          · have := ha p h2
            rw [← e1, c] at this; cases this
        · rcases List.mem_cons.mp h2 with e2 | h2
          · have := ha s h1
            rw [clash_symm, ← e2, c] at this; cases this
          · exact ih h1 h2
    exact all h hs hx
/-- xs[::-1] -/
theorem pe_revK {X : Cx} {K : PySem.W.Frag} {e : Expr} {te : TE} {k : Nat} {p1 p2 p3 pos : Pos} (he : PE X e te) (hK : X.K = K := by rfl) : PE X (.Subscript e (.Slice none none (some (.UnaryOp .USub (.Constant (.int 1) k p1) p2)) p3) pos) (tRevL K (mE te)) := by subst hK; exact pe_revL (pe_mid he)
theorem w_rev {K : PySem.W.Frag} {te : TE} {σ : L2.St} {H : Hp} {Q : VK} (h : te σ H fun x H1 => ∃ a xs, x = .ref a ∧ SqL K H1 a xs ∧ New (.lst xs.reverse) H1 Q) : tRevL K (mE te) σ H Q :=
  ⟨_, h, fun v H' ⟨a, xs, e, s, n⟩ => ⟨a, xs, e, s, fun p hp => n.go hp⟩⟩
/-- len(o), o of an own class -/
def rLenO (C : Addr) (sp : Sp) (E : XK) : List V → Hp → VK → Prop := fun xs H Q => ∃ a dx fs, xs = [.ref a] ∧ H a = some (.ins C dx fs) ∧ sp [.ref a] H (fun v H' => ∃ n : Int, v = .int n ∧ (0 ≤ n ∧ n < 2 ^ 63) ∧ Q (.int n) H') E
section
variable {X : Cx} {k : Nat} {ps : List Str} {sp : Sp} {E : XK} {C : Addr}
theorem cr_lenO (D : MethOk X.prog X.w X.K X.mg X.base k C "__len__" ps sp) (hr : Room (k + 1) X.A) (hx : Passes (L2.CX X.prog X.w) X E) : CallR X (.builtin "len") (rLenO C sp E) := by
  intro pins s σ H xs us Q I r hq
  obtain ⟨a, dx, fs, rfl, ha, hs⟩ := hq
  obtain ⟨f, fd, F, M, b⟩ := D.ex
  rw [Vals.ref1 r]
  obtain ⟨mA, J, _⟩ := ins_get I.hok ha
  obtain ⟨od, J, _⟩ := J.look
  obtain ⟨m, hF⟩ := I.fr
  refine PySem.W.len_K hF I.ok.mod.kin J M.at_ M.fn ?_
  have e0 : Env0 X.prog X.w X.K X.mg X.base X.A.in1 X.stack s H := by
    have e := I.env0
    exact ⟨e.frames, e.mod, e.bs, e.bsz, e.funs, e.frf, e.hok, e.bare⟩
  have r2 : Vals [V.ref a] [Value.ref a] := .cons rfl .nil
  have hl := F.len _ _ _ _ hs
  refine wpAny_call (codeAny_mono (F.run X.A.in1 X.stack s H ⟨[.ref a], []⟩ [.ref a] [.ref a] _ E hr.in1 e0 (by
    have := b s [.ref a] I.kIn (by simpa using hl)
    simpa using this) r2 hs) fun r s' hq => ?_)
  match r, hq with
  | .error e, hq => exact hx pins σ H s e s' I hq
  | .ok (.ret w'), hq =>
    obtain ⟨z, H', I', rz, n, ez, hn, q⟩ := I.after hq
    subst ez
    obtain ⟨t, rfl⟩ := (show ∃ t, w' = Value.int n t from rz)
    exact ⟨hn, ⟨.int n, H', I'.tok _, ⟨_, rfl⟩, q⟩⟩
end
section
variable {K : PySem.W.Frag} {H : Hp} {Q : VK}
theorem w_listD {a : Addr} {kvs : List (Key × V)} (h : H a = some (.dK kvs)) (k : New (.lst (kvs.map fun kv => kV kv.1)) H Q) : rListD [.ref a] H Q := ⟨a, kvs, rfl, h, fun _ hp => k.go hp⟩
theorem w_tyD {a : Addr} {kvs : List (Key × V)} (h : H a = some (.dK kvs)) : tyV K "dict" (.ref a) H := .inr (.inr (.inl ⟨rfl, .inl ⟨_, h⟩⟩))
theorem w_clearD {a : Addr} {kvs : List (Key × V)} (h : H a = some (.dK kvs)) (k : Q .non (upd H a (.dK []))) : rDClear (.ref a) [] H Q := ⟨a, kvs, rfl, rfl, h, k⟩
theorem w_setD {a : Addr} {kvs : List (Key × V)} {v : V} (n : Str) {R : Hp → Prop} (h : H a = some (.dK kvs)) (hz : kvs.length ≤ 1000000) (k : R (upd H a (.dK (putK kvs (keyS n) v)))) : rSetD (.ref a) (.str n) v H R :=
  ⟨a, _, rfl, .inl ⟨kvs, keyS n, h, rfl, by have h2 : (sizeLine : Nat) = 16777216 := sizeLine_eq; omega, rfl⟩, k⟩
theorem w_lenO {C a dx : Addr} {sp : Sp} {E : XK} {fs : List (Str × V)} (h : H a = some (.ins C dx fs)) (k : sp [.ref a] H (fun v H' => ∃ n : Int, v = .int n ∧ (0 ≤ n ∧ n < 2 ^ 63) ∧ Q (.int n) H') E) : rLenO C sp E [.ref a] H Q := ⟨a, dx, fs, rfl, h, k⟩
/-- repr of a tuple of texts and numbers, of a dict of texts -/
theorem w_reprT {a : Addr} {xs : List V} (h : SqT K H a xs) (hx : xs.all okF = true) (hf : fineAll (xs.map fD) = true) (hw : wtAll (xs.map fD) ≤ 900000) (k : Q (.str (PyData.tuple (xs.map fD)).shown) H) : rRepr K [.ref a] H Q := by
  refine ⟨a, .tuple (xs.map fD), rfl, .inl ⟨.tup h (dpAll_flat hx), ?_⟩, by simpa [fineD] using hf, ?_, by simp only [wtD]; omega, k⟩
  · have := PyData.hasDict_of_canLay (.tuple (xs.map fD)) (by simpa [PyData.canLay0] using canLayAll_flat hx)
    exact this
  · simp only [PyData.depth, depthAll_flat]; omega
theorem w_reprL {a : Addr} {xs : List V} (h : SqL K H a xs) (hx : xs.all okF = true) (hf : fineAll (xs.map fD) = true) (hw : wtAll (xs.map fD) ≤ 900000) (k : Q (.str (PyData.list (xs.map fD)).shown) H) : rRepr K [.ref a] H Q := by
  refine ⟨a, .list (xs.map fD), rfl, .inl ⟨.lst h (dpAll_flat hx), ?_⟩, by simpa [fineD] using hf, ?_, by simp only [wtD]; omega, k⟩
  · have := PyData.hasDict_of_canLay (.list (xs.map fD)) (by simpa [PyData.canLay0] using canLayAll_flat hx)
    exact this
  · simp only [PyData.depth, depthAll_flat]; omega
theorem fine_strs {xs : List Str} (h : ∀ x ∈ xs, okS x) : fineAll ((xs.map V.str).map fD) = true := by
  induction xs with
  | nil => rfl
  | cons x r ih =>
    show (fineD (.str x) && fineAll ((r.map V.str).map fD)) = true
    rw [ih fun y hy => h y (List.mem_cons_of_mem _ hy), Bool.and_true]
    simpa [fineD] using (h x List.mem_cons_self).2
theorem wt_strs {xs : List Str} {m : Nat} (h : ∀ x ∈ xs, x.length ≤ m) : wtAll ((xs.map V.str).map fD) ≤ xs.length * (10 * m + 4) := by
  induction xs with
  | nil => simp [wtAll]
  | cons x r ih =>
    have i := ih fun y hy => h y (List.mem_cons_of_mem _ hy)
    have hx := h x List.mem_cons_self
    show wtD (.str x) + 2 + wtAll ((r.map V.str).map fD) ≤ _
    have e : wtD (.str x) = 10 * x.length + 2 := by simp [wtD]
    have e3 : (r.length + 1) * (10 * m + 4) = r.length * (10 * m + 4) + (10 * m + 4) := Nat.succ_mul _ _
    rw [e, List.length_cons, e3]
    omega
theorem ok_strs {xs : List Str} (h : ∀ x ∈ xs, okS x) : (xs.map V.str).all okF = true := List.all_eq_true.mpr fun v hv => by
  obtain ⟨x, hx, rfl⟩ := List.mem_map.mp hv
  exact (h x hx).2
theorem w_reprD {a : Addr} {ws : List (Str × Str)} (h : H a = some (.dK (wd ws))) (hx : ∀ p ∈ ws, okS p.1 ∧ okS p.2) (hl : ∀ p ∈ ws, p.1.length + p.2.length ≤ 100) (hz : ws.length ≤ 100) (k : Q (.str (dD (wd ws)).shown) H) : rRepr K [.ref a] H Q := by
  have hf : ∀ us : List (Str × Str), (∀ p ∈ us, okS p.1 ∧ okS p.2) → fineKv ((wd us).map fun p => (fD (kV p.1), fD p.2)) = true := by
    intro us
    induction us with
    | nil => intro _; rfl
    | cons p r ih =>
      intro hu
      show (fineD (.str p.1) && fineD (.str p.2) && fineKv ((wd r).map fun p => (fD (kV p.1), fD p.2))) = true
      rw [ih fun y hy => hu y (List.mem_cons_of_mem _ hy), Bool.and_true]
      have := hu p List.mem_cons_self
      simp [fineD, this.1.2, this.2.2]
  have hw : ∀ us : List (Str × Str), (∀ p ∈ us, p.1.length + p.2.length ≤ 100) → wtKv ((wd us).map fun p => (fD (kV p.1), fD p.2)) ≤ us.length * 1008 := by
    intro us
    induction us with
    | nil => intro _; simp [wd, wtKv]
    | cons p r ih =>
      intro hu
      have i := ih fun y hy => hu y (List.mem_cons_of_mem _ hy)
      have hp := hu p List.mem_cons_self
      show wtD (.str p.1) + wtD (.str p.2) + 4 + wtKv ((wd r).map fun p => (fD (kV p.1), fD p.2)) ≤ _
      have e1 : wtD (.str p.1) = 10 * p.1.length + 2 := by simp [wtD]
      have e2 : wtD (.str p.2) = 10 * p.2.length + 2 := by simp [wtD]
      have e3 : (r.length + 1) * 1008 = r.length * 1008 + 1008 := Nat.succ_mul _ _
      rw [e1, e2, List.length_cons, e3]
      omega
  have dz : ∀ us : List (Str × Str), PyData.depthKv ((wd us).map fun p => (fD (kV p.1), fD p.2)) = 0 := by
    intro us
    induction us with
    | nil => simp [wd, PyData.depthKv]
    | cons p r ih =>
      show PyData.depthKv ((fD (.str p.1), fD (.str p.2)) :: (wd r).map fun p => (fD (kV p.1), fD p.2)) = 0
      simp [PyData.depthKv, depth_flat, ih]
  refine ⟨a, dD (wd ws), rfl, .inr ⟨wd ws, h, fun p hp => ?_, rfl⟩, by simpa [dD, fineD] using hf ws hx, ?_, ?_, k⟩
  · obtain ⟨q, _, rfl⟩ := List.mem_map.mp hp
    rfl
  · simp only [dD, PyData.depth, dz]; omega
  · have := hw ws hl
    simp only [dD, wtD]; omega
end
/-- [(name, words[name]) for name in names] laid into a dict -/
theorem lc_named {g : TG} {te : TE} {vs : List Nat} {σ : L2.St} {H1 : Hp} {D : Addr} {Qd : Hp → Prop} {J : It} {G : Hp → Prop} {K : PySem.W.Frag} {ws : List (Str × Str)} {nn : List Str} (w : Walk J (nn.map V.str).length G (YAt (nn.map V.str))) (hn : nn.length ≤ 1000000) (hD : H1 D = none) (hG : ∀ H, Same H1 H → G H)
    (hs : ∀ n H' (Ky : V → Hp → Prop), n ∈ nn → Same H1 H' → (∀ H4, Same H' H4 → New (.tup [.str n, .str (look ws n)]) H4 Ky) → g (.str n) (wipe σ vs) H' fun σ2 H2 => wipe σ2 vs = wipe σ vs ∧ te σ2 H2 Ky)
    (hd : ∀ H' (ps : List Addr), Same H1 H' → H' D = some (.lst (ps.map V.ref)) → Paired (fun p (kv : Key × V) => SqT K H' p [kV kv.1, kv.2]) ps (wd (nn.map fun n => (n, look ws n))) → Qd H') :
    ∃ W : Nat → Nat → Hp → Prop, (∃ m, W 0 m (upd H1 D (.lst []))) ∧ ∀ i m H, W i m H →
      (J.stop i H ∧ Qd H) ∨ (J.go i H ∧ ∃ Nx : Hp → Prop, (∀ H', Nx H' → ∃ m', m' < m ∧ W (i + 1) m' H') ∧ ∀ x H', J.yld i H x H' → g x (wipe σ vs) H' fun σ2 H2 => wipe σ2 vs = wipe σ vs ∧ tYes σ2 H2 fun b H3 =>
        if b = true then te σ2 H3 fun y H4 => ∃ acc, H4 D = some (.lst acc) ∧ acc.length < sizeLine ∧ Nx (upd H4 D (.lst (acc ++ [y]))) else Nx H3) := by
  refine lc_pairs (K := K) w (fun v => match v with | .str x => keyS x | _ => .inl 0) (fun v => match v with | .str x => .str (look ws x) | _ => .non) (by rw [List.length_map]; exact hn) hD hG (fun v H' Ky hv s ky => ?_) (fun H' ps s e pr => ?_)
  · obtain ⟨n, hm, rfl⟩ := List.mem_map.mp hv
    exact hs n H' Ky hm s ky
  · refine hd H' ps s e ?_
    have ee : ((nn.map V.str).map fun v => ((match v with | .str x => keyS x | _ => .inl 0 : Key), (match v with | .str x => V.str (look ws x) | _ => .non))) = wd (nn.map fun n => (n, look ws n)) := by
      unfold wd
      rw [List.map_map, List.map_map]
      rfl
    rw [← ee]
    exact pr
theorem merge_wd {ws : List (Str × Str)} (nd : (ws.map (·.1)).Nodup) : mergeK [] (wd ws) = wd ws := by
  have nd2 : (([] ++ wd ws).map fun p : Key × V => p.1).Nodup := by
    rw [List.nil_append, wd_keys]; exact nodup_keyS.mpr nd
  rw [mergeK_nodup nd2, List.nil_append]
theorem names_of (ws : List (Str × Str)) (nn : List Str) : (nn.map fun n => (n, look ws n)).map (·.1) = nn := by
  rw [List.map_map]
  show nn.map (fun n => n) = nn
  simp
theorem named_perm {ws : List (Str × Str)} (nd : (ws.map (·.1)).Nodup) {nn : List Str} (p : nn.Perm (ws.map (·.1))) : (nn.map fun n => (n, look ws n)).Perm ws := by
  have h := p.map fun n => (n, look ws n)
  rw [map_look nd] at h
  exact h
theorem look_perm {ws vs : List (Str × Str)} (n1 : (ws.map (·.1)).Nodup) (p : vs.Perm ws) {n : Str} (h : n ∈ ws.map (·.1)) : look vs n = look ws n := by
  have m := look_in n1 h
  have m2 := p.mem_iff.mpr m
  exact look_mem ((p.map _).nodup_iff.mpr n1) m2

/-! Lan: names drawn. -/
def poolS : List Str := ["a", "b", "c", "d", "e", "f", "g", "ab", "aa", "zz", "abcdefgh", "m"]
def sp_names : Sp := fun vs H Q _ => ∃ (p l : Addr) (b : Nat) (t : Int), vs = [.ref p, .int t] ∧ PenAt b p l H ∧ b + 100 ≤ 1000000000000 ∧ 0 ≤ t ∧ t ≤ 12 ∧
  ∀ H' q (ns : List Str), Kp [p] H H' → PenAt (b + 12) p l H' → H q = none → H' q = some (.lst (ns.map V.str)) → ns.length = t.toNat → ns.Nodup → (∀ n ∈ ns, n ∈ poolS) → Q (.ref q) H'
section
variable {P : Program} {w : World} {K : PySem.W.Frag} {mg : Str → Option Value} {base : Heap}
theorem sc__law_names : FnScope ["pen", "tally", "pool", "turn"] ["pen", "tally"] (defScope s__law_names) := ⟨rfl, rfl, rfl, by decide +kernel, rfl, by decide +kernel, by decide +kernel⟩
theorem ok__law_names {c : Adr} (T : Txt K mg c) (F : At K mg "_law_names" "_law_names" s__law_names) (D__law_draw : DefOk P w K mg base 2 "_law_draw" ["pen", "below"] sp_draw) : DefOk P w K mg base 3 "_law_names" ["pen", "tally"] sp_names := by
  refine DefOk.of F sc__law_names (fun _ _ _ _ _ _ us hl => match us, hl with | [_, _], _ => rfl) (fun vs H Q E h => ?_) (fun f cdv A outer s H vs Q E hr h => ?_)
  · obtain ⟨p, l, b, t, rfl, _⟩ := h
    rfl
  · obtain ⟨p, l, b, t, rfl, hP, hb, t0, t1, k⟩ := h
    refine ⟨_, (pss_cons (ps_set (i := 2) sc__law_names.nd rfl (Or.inr rfl) (pe_lstN (pa_cons pe_str (pa_cons pe_str (pa_cons pe_str (pa_cons pe_str (pa_cons pe_str (pa_cons pe_str (pa_cons pe_str (pa_cons pe_str (pa_cons pe_str (pa_cons pe_str (pa_cons pe_str (pa_cons pe_str pa_nil))))))))))))))
    (pss_one (ps_ret (pe_lc (own := [("turn", 3)]) (g := gName 3) (tt := tYes) (by rfl) sc__law_names.nd (pi_range1 (by rfl) T.b_range (pa_cons (pv 1) pa_nil)) (blkOk_by (N := ["pen", "tally", "pool", "turn"]) (sc := defScope s__law_names) (by decide +kernel))
    (fun _ _ _ _ _ => (pg_name (i := 3) sc__law_names.nd rfl (Or.inl rfl))) (fun _ _ _ _ _ => pts_nil) (fun _ _ _ _ _ => (pe_bmK (K := K) PySem.F.plainAttrs_list PySem.F.slot_list_pop PySem.F.type_list_pop mt_popAt (pv 2) (pa_cons (pe_callD D__law_draw (hr.mono (by decide)) passL (pa_cons (pv 0) (pa_cons (pe_callB (cr_len (K := K)) (by rfl) T.b_len (by decide +kernel) (pa_cons (pv 2) pa_nil)) pa_nil))) pa_nil))))))), ?_⟩
    walk_at "w"
    intro q H1 hq s1 h1
    walk_at "w"
    refine w_exR1 t0 (by omega) ?_
    intro D hD
    have nq : q ≠ D := ne_of_none h1 hD
    have P1 := hP.keep s1
    have np := P1.ne_p hD
    have nl := P1.ne_l hD
    have npq : p ≠ q := hP.ne_p hq
    have nlq : l ≠ q := hP.ne_l hq
    refine lc_st walk_range (fun i acc H2 => ∃ ns rest : List Str, acc = ns.map V.str ∧ Kp [p] H H2 ∧ PenAt (b + i) p l H2 ∧ H2 q = some (.lst (rest.map V.str)) ∧ rest.length + i = 12 ∧ (ns ++ rest).Perm poolS ∧ ns.length = i) (by omega) ?_ ?_ (fun _ _ _ _ => trivial) ?_ ?_
    · rintro i acc H2 H3 kd ⟨ns, rest, rfl, kp, P2, e2, r⟩
      exact ⟨ns, rest, rfl, kp_kp kp (Same.free s1 hD) kd, P2.kp np nl kd, kp_at kd (by simpa using nq) e2, r⟩
    · refine ⟨[], poolS, rfl, ?_, ?_, ?_, rfl, List.Perm.refl _, rfl⟩
      · exact kp_new (same_wo s1 [p]) (Same.free s1 hD)
      · exact P1.keep (same_upd hD)
      · rw [upd_ne nq]; exact h1
    · rintro i x acc H2 H3 Ky Kn hi hl ⟨ns, rest, rfl, kp, P2, e2, hlen, hperm, hn⟩ eD ⟨rfl, rfl⟩ ky kn
      walk_at "w"
      refine ⟨w_tyL (.of e2), ?_⟩
      walk_at "w"
      refine w_lenL (.of e2) ?_
      walk_at "w"
      have hpos : 0 < rest.length := by omega
      refine ⟨p, l, b + i, _, rfl, P2, by omega, by simpa using hpos, by simp; omega, fun H4 d kp4 P4 d0 d1 => ?_⟩
      rw [List.length_map] at d1
      have e4 : H4 q = some (.lst (rest.map V.str)) := kp_at kp4 (by simpa using npq.symm) e2
      have hd : d.toNat < rest.length := by omega
      have ey : rest[d.toNat]? = some rest[d.toNat] := by simp [hd]
      refine ⟨q, rest.map V.str, d, d.toNat, .str rest[d.toNat], rfl, rfl, e4, by omega, by omega, ?_, by rw [List.getElem?_map, ey]; rfl, ?_⟩
      · unfold seqIndex?
        rw [List.length_map]
        simp
        omega
      rw [map_erase]
      have nqD : q ≠ D := nq
      refine ky (.str rest[d.toNat]) _ ?_ ⟨ns ++ [rest[d.toNat]], rest.eraseIdx d.toNat, by simp, kp_new (kp.trans kp4) hq, ?_, upd_same, ?_, ?_, by simp [hn]⟩
      · rw [upd_ne nq.symm]; exact kp_at kp4 (by simpa using np.symm) eD
      · exact PenAt.kp (D := q) P4 npq nlq (kp_upd List.mem_cons_self)
      · rw [List.length_eraseIdx]; rw [if_pos hd]; omega
      · rw [List.append_assoc]
        exact ((perm_erase ey).symm.append_left ns).trans hperm
    · rintro acc H2 hl e2 ⟨ns, rest, rfl, kp, P2, eq2, hlen, hperm, hn⟩
      refine k H2 D ns kp (P2.mono (by omega)) (Same.free s1 hD) e2 hn ?_ (fun n hm => hperm.mem_iff.mp (List.mem_append_left _ hm))
      have nd : (ns ++ rest).Nodup := hperm.nodup_iff.mpr (by decide +kernel)
      exact (List.nodup_append.mp nd).1
end

/-! La: names and strings drawn. -/
section
variable {P : Program} {w : World} {K : PySem.W.Frag} {mg : Str → Option Value} {base : Heap}
theorem sc__law_strings : FnScope ["pen", "radix", "depth", "tally", "found", "turn", "string", "level", "clash", "one"] ["pen", "radix", "depth", "tally"] (defScope s__law_strings) := ⟨rfl, rfl, rfl, by decide +kernel, rfl, by decide +kernel, by decide +kernel⟩
theorem ok__law_strings {c : Adr} (T : Txt K mg c) (F : At K mg "_law_strings" "_law_strings" s__law_strings) (D__law_draw : DefOk P w K mg base 2 "_law_draw" ["pen", "below"] sp_draw) : DefOk P w K mg base 3 "_law_strings" ["pen", "radix", "depth", "tally"] sp_strings := by
  refine DefOk.of F sc__law_strings (fun _ _ _ _ _ _ us hl => match us, hl with | [_, _, _, _], _ => rfl) (fun vs H Q E h => ?_) (fun f cdv A outer s H vs Q E hr h => ?_)
  · obtain ⟨p, l, b, r, h, t, rfl, _⟩ := h
    rfl
  · obtain ⟨p, l, b, r, h, t, rfl, hP, hb, r2, r4, g1, g6, t0, t1, k⟩ := h
    refine ⟨_, (pss_cons (ps_set (i := 4) sc__law_strings.nd rfl (Or.inl rfl) (pe_lstN pa_nil))
    (pss_cons (ps_for (passes_of rfl) rfl (pi_range1 (by rfl) T.b_range (pa_cons (pv 3) pa_nil)) (pg_name (i := 5) sc__law_strings.nd rfl (Or.inl rfl))
      (pss_cons (ps_set (i := 6) sc__law_strings.nd rfl (Or.inr rfl) pe_str)
      (pss_cons (ps_for (passes_of rfl) rfl (pi_range1 (by rfl) T.b_range (pa_cons (pe_op op_add pe_int (pe_callD D__law_draw (hr.mono (by decide)) passL (pa_cons (pv 0) (pa_cons (pv 2) pa_nil)))) pa_nil)) (pg_name (i := 7) sc__law_strings.nd rfl (Or.inl rfl))
        (pss_one (ps_set (i := 6) sc__law_strings.nd rfl (Or.inr rfl) (pe_op op_addS (pv 6) (pe_callTy cr_strI (by rfl) T.b_str (by decide +kernel) (pa_cons (pe_callD D__law_draw (hr.mono (by decide)) passL (pa_cons (pv 0) (pa_cons (pv 1) pa_nil))) pa_nil))))))
      (pss_cons (ps_setLc (i := 8) (own := [("one", 9)]) (g := gName 9) (by rfl) sc__law_strings.nd rfl rfl (sw_true rfl rfl rfl (by decide +kernel)) (piL (K := K) (pv 4)) (blkOk_by (N := ["pen", "radix", "depth", "tally", "found", "turn", "string", "level", "clash", "one"]) (sc := defScope s__law_strings) (by decide +kernel))
    (fun _ _ _ _ _ => (pg_name (i := 9) sc__law_strings.nd rfl (Or.inl rfl))) (fun _ _ _ _ _ => (pts_one (PW.pt (pw_or (pt_val (pe_m1 PySem.F.slot_str_startswith PySem.F.type_str_startswith mt_startsN (pv 9) (pv 6))) (pw_or1 (pt_val (pe_m1 PySem.F.slot_str_startswith PySem.F.type_str_startswith mt_startsN (pv 6) (pv 9)))))))) (fun _ _ _ _ _ => (pv 9)))
      (pss_one (ps_if (pt_cmpR (opEqD (K := K) hr.units) (pv 8) (pe_lstN pa_nil) (nomark _)) (pss_one (ps_expr (pe_bmK (K := K) PySem.F.plainAttrs_list PySem.F.slot_list_append PySem.F.type_list_append mt_append (pv 4) (pa_cons (pv 6) pa_nil))))
        pss_nil))))))
    (pss_one (ps_ret (pv 4))))), ?_⟩
    walk_at "w"
    intro q H1 hq s1 h1
    walk_at "w"
    refine w_exR1 t0 (by omega) ?_
    have npq : p ≠ q := hP.ne_p hq
    have nlq : l ≠ q := hP.ne_l hq
    refine for_it walk_range (fun i σ H2 => ∃ (xs : List Str) (o5 o6 o7 o8 : Option V), σ = [some (.ref p), some (.int r), some (.int h), some (.int t), some (.ref q), o5, o6, o7, o8, none] ∧ Kp [p] H H2 ∧ PenAt (b + 10 * i) p l H2 ∧ H2 q = some (.lst (xs.map V.str)) ∧ xs.length ≤ i ∧
      (∀ x ∈ xs, isCode r h (.str x) = true) ∧ xs.Pairwise (fun a b => clashS a b = false) ∧ (0 < i → xs ≠ [])) ⟨[], none, none, none, none, rfl, same_wo s1 [p], hP.keep s1, h1, Nat.le_refl _, by simp, .nil, by simp⟩ (fun _ _ _ _ _ => trivial) ?_ ?_
    · rintro i x σ H2 H3 hi ⟨xs, o5, o6, o7, o8, rfl, kp, P2, e2, hl, hc, hpw, hne⟩ ⟨rfl, rfl⟩
      walk_at "w"
      refine ⟨p, l, b + 10 * i, h, rfl, P2, by omega, by omega, by omega, fun H4 d kp4 P4 d0 d1 => ?_⟩
      walk_at "w"
      refine w_exR1 (by omega) (by omega) ?_
      refine for_it walk_range (fun j σ H5 => ∃ (z : Str) (o7 : Option V), σ = [some (.ref p), some (.int r), some (.int h), some (.int t), some (.ref q), some (.int (0 + (i : Nat))), some (.str z), o7, o8, none] ∧ Kp [p] H3 H5 ∧ PenAt (b + 10 * i + 1 + j) p l H5 ∧ z.length = j ∧ z.cps.toList.all (isDig r) = true)
        ⟨"", o7, rfl, kp4, P4, rfl, rfl⟩ (fun _ _ _ _ _ => trivial) ?_ ?_
      · rintro j y σ H5 H6 hj ⟨z, o7', rfl, kp5, P5, hz, hd⟩ ⟨rfl, rfl⟩
        walk_at "w"
        refine ⟨p, l, _, r, rfl, P5, by omega, by omega, by omega, fun H7 e kp7 P7 e0 e1 => ?_⟩
        walk_at "w"
        have lg : e.natAbs.log2 < 1920 := by
          have : e = 0 ∨ e = 1 ∨ e = 2 ∨ e = 3 := by omega
          rcases this with rfl | rfl | rfl | rfl <;> decide
        refine w_strI lg ?_
        have es := dstr e0 (show e < 4 by omega)
        rw [es]
        refine w_addS (by
          have h2 : (sizeLine : Nat) = 16777216 := sizeLine_eq
          have e1 : (⟨#[48 + e.toNat]⟩ : Str).length = 1 := rfl
          omega) ?_
        walk_at "w"
        refine ⟨z ++ ⟨#[48 + e.toNat]⟩, _, rfl, kp5.trans kp7, P7.mono (by omega), by rw [len_app, hz]; rfl, ?_⟩
        rw [app_sign, List.all_append, hd]
        simp [isDig]
        omega
      · rintro σ H5 ⟨z, o7', rfl, kp5, P5, hz, hd⟩
        have e5 := kp_at kp5 (by simpa using npq.symm) e2
        have hz1 : z.length = d.toNat + 1 := by omega
        walk_at "w"
        refine w_exL (.of e5) ?_
        intro D hD
        refine lc_seqF (walk_list (K := K) (a := q) (xs := xs.map V.str)) (fun v => match v with | .str x => if clashS x z then some (.str x) else none | _ => none) (by rw [List.length_map]; omega) hD (fun H6 s => .of (s _ _ e5)) (fun v H6 Ky Kn hv s6 ky kn => ?_) (fun H6 s6 e6 => ?_)
        · obtain ⟨x, hx, rfl⟩ := List.mem_map.mp hv
          have key : (clashS x z = true → Ky (.str x) H6) ∧ (clashS x z = false → Kn H6) := ⟨fun c => ky _ _ (Same.refl _) (by simp [c]), fun c => kn _ (Same.refl _) (by simp [c])⟩
          have ec : clashS x z = (Txt.startswith x z || Txt.startswith z x) := rfl
          walk_at "w"
          refine ifB (fun c1 => ?_) (fun c1 => ?_)
          · walk_at "w"
            exact key.1 (by rw [ec, c1]; rfl)
          · walk_at "w"
            refine ifB (fun c2 => ?_) (fun c2 => ?_)
            · walk_at "w"
              exact key.1 (by rw [ec, c1, c2]; rfl)
            · walk_at "w"
              exact key.2 (by rw [ec, c1, c2]; rfl)
        · have ef : (xs.map V.str).filterMap (fun v => match v with | .str x => if clashS x z then some (V.str x) else none | _ => none) = (xs.filter fun x => clashS x z).map V.str := by
            exact filt_map (fun x => clashS x z) xs
          rw [ef] at e6
          have e7 := s6 _ _ e5
          walk_at "w"
          intro q2 H7 hq2 s7 e8
          have okx : ((xs.filter fun x => clashS x z).map V.str).all okF = true := List.all_eq_true.mpr fun v hv => by
            obtain ⟨x, hx, rfl⟩ := List.mem_map.mp hv
            exact code_ok r4 (hc x ((List.mem_filter.mp hx).1))
          refine w_eqNil okx (.of (s7 _ _ e6)) (.of e8) ?_
          rw [List.isEmpty_map]
          have kpf : Kp [p] H H7 := kp.trans (kp5.trans (same_wo (s6.trans s7) [p]))
          have P7 : PenAt (b + 10 * i + 1 + (d.toNat + 1)) p l H7 := (P5.keep (s6.trans s7)).mono (by omega)
          have e9 := s7 _ _ e7
          have hcode : isCode r h (.str z) = true := by
            show (decide (1 ≤ z.length) && decide ((z.length : Int) ≤ h) && z.cps.toList.all (isDig r)) = true
            rw [hd, decide_eq_true (show 1 ≤ z.length by omega), decide_eq_true (show (z.length : Int) ≤ h by omega)]
            rfl
          walk_at "w"
          refine ifB (fun c1 => ?_) (fun c1 => ?_)
          · walk_at "w"
            refine ⟨w_tyL (.of e9), ?_⟩
            walk_at "w"
            refine w_app e9 (by
              have h2 : (sizeLine : Nat) = 16777216 := sizeLine_eq
              rw [List.length_map]; omega) ?_
            refine ⟨xs ++ [z], _, _, _, _, rfl, kp_new kpf hq, (PenAt.kp (D := q) P7 npq nlq (kp_upd List.mem_cons_self)).mono (by omega), by rw [upd_same]; simp, by simp; omega, ?_, ?_, by simp⟩
            · intro x hx
              rcases List.mem_append.mp hx with hx | hx
              · exact hc x hx
              · obtain rfl := List.mem_singleton.mp hx
                exact hcode
            · rw [List.pairwise_append]
              refine ⟨hpw, by simp, fun x hx y hy => ?_⟩
              obtain rfl := List.mem_singleton.mp hy
              have := List.isEmpty_iff.mp c1
              cases hcl : clashS x y with
              | false => rfl
              | true =>
                have m : x ∈ xs.filter fun x => clashS x y := List.mem_filter.mpr ⟨hx, hcl⟩
                rw [this] at m
                cases m
          · walk_at "w"
            refine ⟨xs, _, _, _, _, rfl, kpf, P7.mono (by omega), e9, by omega, hc, hpw, fun _ hx => ?_⟩
            rw [hx] at c1
            cases c1
    · rintro σ H2 ⟨xs, o5, o6, o7, o8, rfl, kp, P2, e2, hl, hc, hpw, hne⟩
      walk_at "w"
      exact k H2 q xs kp P2 hq e2 hl hc hpw (fun h => hne (by omega))
end

/-! Lbq: a codebook's parts as drawn. -/
def shapes8 : List (Int × Int) := [(2, 2), (2, 3), (2, 4), (3, 2), (3, 3), (4, 2), (2, 5), (4, 1), (2, 1)]
/-- the parts of a codebook, as drawn -/
structure Parts (r h : Int) (ws : List (Str × Str)) (ss : List Str) : Prop where
  sh : (r, h) ∈ shapes8
  nd : (ws.map (·.1)).Nodup
  nm : ∀ n ∈ ws.map (·.1), n ∈ poolS
  cd : ∀ x ∈ ws.map (·.2) ++ ss, isCode r h (.str x) = true
  pw : (ws.map (·.2) ++ ss).Pairwise (fun a b => clashS a b = false)
  lw : ws.length ≤ 12
  ls : ss.length ≤ 2
def sp_parts : Sp := fun vs H Q _ => ∃ (p l : Addr) (b : Nat) (m : Int), vs = [.ref p, .int m] ∧ PenAt b p l H ∧ b + 200000 ≤ 1000000000000 ∧ 0 ≤ m ∧ m ≤ 11 ∧
  ∀ H' T D S r h ws ss, Kp [p] H H' → PenAt (b + 1000) p l H' → H D = none → H' T = some (.tup [.int r, .int h, .ref D, .ref S]) → H' D = some (.dK (wd ws)) → H' S = some (.tup (ss.map V.str)) → Parts r h ws ss → Q (.ref T) H'
theorem pool_name {n : Str} (h : n ∈ poolS) : isNameS n = true := by
  have : ∀ x ∈ poolS, isNameS x = true := by decide +kernel
  exact this n h
/-- drawn parts, the names in any order, make a codebook -/
theorem parts_cb {H : Hp} {r h : Int} {ws vs : List (Str × Str)} {ss : List Str} {wv : V} (p : Parts r h ws ss) (e : dictOf H wv = some (wd vs)) (pm : vs.Perm ws) : cbL H (.int r) (.int h) wv (some (ss.map V.str)) = true := by
  have rh : 2 ≤ r ∧ r ≤ 4 ∧ 1 ≤ h ∧ h ≤ 6 := by
    have := p.sh
    unfold shapes8 at this
    simp at this
    omega
  unfold cbL
  rw [e]
  show (isBetw 2 4 (.int r) && isBetw 1 6 (.int h) && (((wd vs).all fun kv => isName (kV kv.1) && isCode r h kv.2) && ((ss.map V.str).all fun y => isCode r h y) && pfB (((wd vs).map (·.2) ++ ss.map V.str).map strOf))) = true
  have es : ((wd vs).map (·.2) ++ ss.map V.str).map strOf = vs.map (·.2) ++ ss := by
    unfold wd
    rw [List.map_append, List.map_map, List.map_map, List.map_map]
    congr 1
    rw [show (strOf ∘ V.str) = fun x => x from rfl]
    simp
  have b1 : isBetw 2 4 (.int r) = true := by show (decide (2 ≤ r) && decide (r ≤ 4)) = true; simp [rh]
  have b2 : isBetw 1 6 (.int h) = true := by show (decide (1 ≤ h) && decide (h ≤ 6)) = true; simp [rh]
  have b3 : ((wd vs).all fun kv => isName (kV kv.1) && isCode r h kv.2) = true := List.all_eq_true.mpr fun kv hm => by
    obtain ⟨q, hq, rfl⟩ := List.mem_map.mp hm
    have hq' := pm.mem_iff.mp hq
    rw [Bool.and_eq_true]
    exact ⟨pool_name (p.nm _ (List.mem_map.mpr ⟨q, hq', rfl⟩)), p.cd _ (List.mem_append_left _ (List.mem_map.mpr ⟨q, hq', rfl⟩))⟩
  have b4 : ((ss.map V.str).all fun y => isCode r h y) = true := List.all_eq_true.mpr fun v hm => by
    obtain ⟨x, hx, rfl⟩ := List.mem_map.mp hm
    exact p.cd x (List.mem_append_right _ hx)
  have b5 : pfB (vs.map (·.2) ++ ss) = true := pfB_perm ((pm.map _).append_right ss).symm (pfB_of_pw p.pw)
  rw [b1, b2, b3, b4, es, b5]
  rfl
theorem parts_ok {r h : Int} {ws : List (Str × Str)} {ss : List Str} (p : Parts r h ws ss) : (∀ q ∈ ws, okS q.1 ∧ okS q.2 ∧ q.1.length ≤ 8 ∧ q.2.length ≤ 6) ∧ ∀ x ∈ ss, okS x ∧ x.length ≤ 6 := by
  have rh : r ≤ 4 ∧ h ≤ 6 := by
    have := p.sh
    unfold shapes8 at this
    simp at this
    omega
  have cs : ∀ x : Str, isCode r h (.str x) = true → okS x ∧ x.length ≤ 6 := fun x e => by
    obtain ⟨_, q, _, l⟩ := code_str e
    cases q
    exact ⟨⟨by omega, code_ok rh.1 e⟩, by omega⟩
  have pn : ∀ x ∈ poolS, PyData.strOk x = true ∧ x.length ≤ 8 := by decide +kernel
  refine ⟨fun q hq => ?_, fun x hx => cs x (p.cd x (List.mem_append_right _ hx))⟩
  have a := pn q.1 (p.nm _ (List.mem_map.mpr ⟨q, hq, rfl⟩))
  have b := cs q.2 (p.cd _ (List.mem_append_left _ (List.mem_map.mpr ⟨q, hq, rfl⟩)))
  exact ⟨⟨by omega, a.1⟩, b.1, a.2, b.2⟩


/-! Lb: a codebook's parts drawn, 8 shapes. -/
section
variable {P : Program} {w : World} {K : PySem.W.Frag} {mg : Str → Option Value} {base : Heap}
theorem sc__law_parts : FnScope ["pen", "most", "radix", "depth", "strings", "tally", "names", "words", "k"] ["pen", "most"] (defScope s__law_parts) := ⟨rfl, rfl, rfl, by decide +kernel, rfl, by decide +kernel, by decide +kernel⟩
theorem ok__law_parts {c : Adr} (T : Txt K mg c) (F : At K mg "_law_parts" "_law_parts" s__law_parts) (D__law_strings : DefOk P w K mg base 3 "_law_strings" ["pen", "radix", "depth", "tally"] sp_strings) (D__law_names : DefOk P w K mg base 3 "_law_names" ["pen", "tally"] sp_names) (D__law_draw : DefOk P w K mg base 2 "_law_draw" ["pen", "below"] sp_draw) : DefOk P w K mg base 4 "_law_parts" ["pen", "most"] sp_parts := by
  refine DefOk.of F sc__law_parts (fun _ _ _ _ _ _ us hl => match us, hl with | [_, _], _ => rfl) (fun vs H Q E h => ?_) (fun f cdv A outer s H vs Q E hr h => ?_)
  · obtain ⟨p, l, b, m, rfl, _⟩ := h
    rfl
  · obtain ⟨p, l, b, m, rfl, hP, hb, m0, m1, k⟩ := h
    refine ⟨_, (pss_cons (ps_asg (pe_ix (ixL (K := K)) (pe_lstN (pa_cons (pe_tupN (pa_cons pe_int (pa_cons pe_int pa_nil))) (pa_cons (pe_tupN (pa_cons pe_int (pa_cons pe_int pa_nil))) (pa_cons (pe_tupN (pa_cons pe_int (pa_cons pe_int pa_nil))) (pa_cons (pe_tupN (pa_cons pe_int (pa_cons pe_int pa_nil))) (pa_cons (pe_tupN (pa_cons pe_int (pa_cons pe_int pa_nil))) (pa_cons (pe_tupN (pa_cons pe_int (pa_cons pe_int pa_nil))) (pa_cons (pe_tupN (pa_cons pe_int (pa_cons pe_int pa_nil))) (pa_cons (pe_tupN (pa_cons pe_int (pa_cons pe_int pa_nil))) pa_nil))))))))) (pe_callD D__law_draw (hr.mono (by decide)) passL (pa_cons (pv 0) (pa_cons pe_int pa_nil))) (fun _ _ => rfl)) (pg_tupK (K := K) (n := 2) rfl (pgs_cons (pg_name (i := 2) sc__law_parts.nd rfl (Or.inl rfl)) (pgs_cons (pg_name (i := 3) sc__law_parts.nd rfl (Or.inl rfl)) pgs_nil))))
    (pss_cons (ps_set (i := 4) sc__law_parts.nd rfl (Or.inr rfl) (pe_callD D__law_strings (hr.mono (by decide)) passL (pa_cons (pv 0) (pa_cons (pv 2) (pa_cons (pv 3) (pa_cons (pe_op op_add pe_int (pe_callD D__law_draw (hr.mono (by decide)) passL (pa_cons (pv 0) (pa_cons (pe_op op_add (pv 1) pe_int) pa_nil)))) pa_nil))))))
    (pss_cons (ps_set (i := 5) sc__law_parts.nd rfl (Or.inl rfl) (pe_callB (call_min2 rfl) (by rfl) T.b_min (by decide +kernel) (pa_cons (pe_callB (cr_len (K := K)) (by rfl) T.b_len (by decide +kernel) (pa_cons (pv 4) pa_nil)) (pa_cons (pe_callD D__law_draw (hr.mono (by decide)) passL (pa_cons (pv 0) (pa_cons (pe_op op_add (pv 1) pe_int) pa_nil))) pa_nil))))
    (pss_cons (ps_set (i := 6) sc__law_parts.nd rfl (Or.inr rfl) (pe_callD D__law_names (hr.mono (by decide)) passL (pa_cons (pv 0) (pa_cons (pv 5) pa_nil))))
    (pss_cons (ps_set (i := 7) sc__law_parts.nd rfl (Or.inl rfl) (pe_callTy (cr_dictP (K := K) rfl) (by rfl) T.b_dict (by decide +kernel) (pa_cons (pe_lc (own := [("k", 8)]) (g := gName 8) (tt := tYes) (by rfl) sc__law_parts.nd (pi_range1 (by rfl) T.b_range (pa_cons (pv 5) pa_nil)) (blkOk_by (N := ["pen", "most", "radix", "depth", "strings", "tally", "names", "words", "k"]) (sc := defScope s__law_parts) (by decide +kernel))
    (fun _ _ _ _ _ => (pg_name (i := 8) sc__law_parts.nd rfl (Or.inl rfl))) (fun _ _ _ _ _ => pts_nil) (fun _ _ _ _ _ => (pe_tupN (pa_cons (pe_ix (ixL (K := K)) (pv 6) (pv 8) (fun _ _ => rfl)) (pa_cons (pe_ix (ixL (K := K)) (pv 4) (pv 8) (fun _ _ => rfl)) pa_nil))))) pa_nil)))
    (pss_one (ps_ret (pe_tupN (pa_cons (pv 2) (pa_cons (pv 3) (pa_cons (pv 7) (pa_cons (pe_callTy (cr_tupOf (K := K)) (by rfl) T.b_tuple (by decide +kernel) (pa_cons (pe_slice (slL (K := K)) (pv 4) (po_some (pv 5)) (po_some (pe_op op_add (pv 5) (pe_callD D__law_draw (hr.mono (by decide)) passL (pa_cons (pv 0) (pa_cons pe_int pa_nil)))))) pa_nil)) pa_nil)))))))))))), ?_⟩
    walk_at "w"
    have pn : ∀ {H' : Hp} {q : Addr}, Same H H' → H' q = none → q ≠ p := fun {H' q} s hq z => by
      obtain ⟨o, e⟩ := hP.some_p
      rw [z, s _ _ e] at hq; cases hq
    intro q1 H1 n1 s1 e1
    walk_at "w"
    intro q2 H2 n2 s2 e2
    walk_at "w"
    intro q3 H3 n3 s3 e3
    walk_at "w"
    intro q4 H4 n4 s4 e4
    walk_at "w"
    intro q5 H5 n5 s5 e5
    walk_at "w"
    intro q6 H6 n6 s6 e6
    walk_at "w"
    intro q7 H7 n7 s7 e7
    walk_at "w"
    intro q8 H8 n8 s8 e8
    walk_at "w"
    intro L HL nL sL eL
    have S8 := s8.trans sL
    have S7 := s7.trans S8
    have S6 := s6.trans S7
    have S5 := s5.trans S6
    have S4 := s4.trans S5
    have S3 := s3.trans S4
    have S2 := s2.trans S3
    have S1 := s1.trans S2
    have all8 : ∀ d : Int, 0 ≤ d → d < 8 → ∃ T r h, atI [V.ref q1, V.ref q2, V.ref q3, V.ref q4, V.ref q5, V.ref q6, V.ref q7, V.ref q8] d = some (V.ref T) ∧ HL T = some (.tup [.int r, .int h]) ∧ T ≠ p ∧ (r, h) ∈ shapes8 := by
      intro d d0 d1
      have hd : d = 0 ∨ d = 1 ∨ d = 2 ∨ d = 3 ∨ d = 4 ∨ d = 5 ∨ d = 6 ∨ d = 7 := by omega
      rcases hd with rfl | rfl | rfl | rfl | rfl | rfl | rfl | rfl
      · exact ⟨q1, 2, 2, rfl, S2 _ _ e1, pn (Same.refl _) n1, by decide⟩
      · exact ⟨q2, 2, 3, rfl, S3 _ _ e2, pn s1 n2, by decide⟩
      · exact ⟨q3, 2, 4, rfl, S4 _ _ e3, pn (s1.trans s2) n3, by decide⟩
      · exact ⟨q4, 3, 2, rfl, S5 _ _ e4, pn (s1.trans (s2.trans s3)) n4, by decide⟩
      · exact ⟨q5, 3, 3, rfl, S6 _ _ e5, pn (s1.trans (s2.trans (s3.trans s4))) n5, by decide⟩
      · exact ⟨q6, 4, 2, rfl, S7 _ _ e6, pn (s1.trans (s2.trans (s3.trans (s4.trans s5)))) n6, by decide⟩
      · exact ⟨q7, 2, 5, rfl, S8 _ _ e7, pn (s1.trans (s2.trans (s3.trans (s4.trans (s5.trans s6))))) n7, by decide⟩
      · exact ⟨q8, 4, 1, rfl, sL _ _ e8, pn (s1.trans (s2.trans (s3.trans (s4.trans (s5.trans (s6.trans s7)))))) n8, by decide⟩
    have nLp : L ≠ p := pn (s1.trans (s2.trans (s3.trans (s4.trans (s5.trans (s6.trans (s7.trans s8))))))) nL
    have PL := hP.keep S1
    clear S2 S3 S4 S5 S6 S7 S8 e1 e2 e3 e4 e5 e6 e7 e8
    walk_at "w"
    refine ⟨p, l, b, 8, rfl, PL, by omega, by omega, by omega, fun Ha d kpa Pa d0 d1 => ?_⟩
    obtain ⟨T0, r, h, eT, hT, nT, hsh⟩ := all8 d d0 d1
    refine w_ixL (.of (kp_at kpa (by simpa using nLp) eL)) eT ?_
    refine w_gtup (.of (kp_at kpa (by simpa using nT) hT)) rfl ?_
    walk_at "w"
    have kp0 : Kp [p] H Ha := (same_wo S1 [p]).trans kpa
    have rh : 2 ≤ r ∧ r ≤ 4 ∧ 1 ≤ h ∧ h ≤ 6 := by
      unfold shapes8 at hsh
      simp at hsh
      omega
    refine ⟨p, l, b + 1, m + 3, rfl, Pa, by omega, by omega, by omega, fun Hb d2 kpb Pb d20 d21 => ?_⟩
    walk_at "w"
    refine ⟨p, l, b + 2, r, h, 1 + d2, rfl, Pb, by omega, rh.1, rh.2.1, rh.2.2.1, rh.2.2.2, by omega, by omega, fun Hc q xs kpc Pc nq eq hlx hcx hpw hne => ?_⟩
    have kp1 := kp0.trans (kpb.trans kpc)
    have nqp : q ≠ p := by
      obtain ⟨o, e⟩ := Pb.some_p
      exact (ne_of_none e nq).symm
    walk_at "w"
    refine w_lenL (.of eq) ?_
    walk_at "w"
    rw [List.length_map]
    refine ⟨p, l, _, m + 1, rfl, Pc, by omega, by omega, by omega, fun Hd d3 kpd Pd d30 d31 => ?_⟩
    walk_at "w"
    refine ⟨_, _, rfl, ?_⟩
    walk_at "w"
    generalize ht : (if d3 < (xs.length : Int) then d3 else (xs.length : Int)) = t
    have t0 : 0 ≤ t ∧ t ≤ m ∧ t ≤ xs.length := by
      split at ht <;> omega
    have eqd := kp_at kpd (by simpa using nqp) eq
    refine ⟨p, l, _, t, rfl, Pd, by omega, by omega, by omega, fun He qn ns kpe Pe nqn eqn hln hnd hnm => ?_⟩
    have nqnp : qn ≠ p := by
      obtain ⟨o, e⟩ := Pd.some_p
      exact (ne_of_none e nqn).symm
    have eqe := kp_at kpe (by simpa using nqp) eqd
    walk_at "w"
    refine w_exR1 t0.1 (by omega) ?_
    intro D hD
    refine lc_pairs (K := K) (walkV_rng (lo := 0) (n := t.toNat)) (fun v => match v with | .int i => keyS (ns.getD i.toNat "") | _ => .inl 0) (fun v => match v with | .int i => .str (xs.getD i.toNat "") | _ => .non) (by simp; omega) hD (fun _ _ => trivial) (fun v Hf Ky hv sf ky => ?_) (fun Hf ps sf ef pr => ?_)
    · obtain ⟨i, hi, rfl⟩ := List.mem_map.mp hv
      have hi' := List.mem_range.mp hi
      have e0 : (0 : Int) + (i : Nat) = (i : Nat) := by omega
      rw [e0] at ky ⊢
      walk_at "w"
      have hin : i < ns.length := by omega
      have hix : i < xs.length := by omega
      refine w_ixL (v := .str ns[i]) (.of (sf _ _ eqn)) (atI_nat (by simp [hin])) ?_
      walk_at "w"
      refine w_ixL (v := .str xs[i]) (.of (sf _ _ eqe)) (atI_nat (by simp [hix])) ?_
      walk_at "w"
      have := ky Hf (Same.refl _)
      simpa [hin, hix, kV_keyS] using this
    · let ws : List (Str × Str) := (List.range t.toNat).map fun i => (ns.getD i "", xs.getD i "")
      have ekv : (((List.range t.toNat).map fun i => V.int (0 + (i : Nat))).map fun x => ((match x with | .int i => keyS (ns.getD i.toNat "") | _ => .inl 0 : Key), (match x with | .int i => V.str (xs.getD i.toNat "") | _ => .non))) = wd ws := by
        unfold wd
        rw [List.map_map, List.map_map]
        refine List.map_congr_left fun i _ => ?_
        show (keyS (ns.getD (0 + (i : Int)).toNat ""), V.str (xs.getD (0 + (i : Int)).toNat "")) = _
        have e0 : ((0 : Int) + (i : Nat)).toNat = i := by omega
        rw [e0]
        rfl
      have en : ws.map (·.1) = ns := by
        show ((List.range t.toNat).map fun i => (ns.getD i "", xs.getD i "")).map (·.1) = ns
        rw [List.map_map, ← hln]
        exact range_getD ns
      have ex : ws.map (·.2) = xs.take t.toNat := by
        show ((List.range t.toNat).map fun i => (ns.getD i "", xs.getD i "")).map (·.2) = _
        rw [List.map_map]
        exact range_take xs (by omega)
      rw [ekv] at pr
      clear_value ws
      have ndw : (ws.map (·.1)).Nodup := by rw [en]; exact hnd
      have emg : mergeK [] (wd ws) = wd ws := by
        have nd2 : (([] ++ wd ws).map fun p : Key × V => p.1).Nodup := by
          rw [List.nil_append, wd_keys]; exact nodup_keyS.mpr ndw
        rw [mergeK_nodup nd2, List.nil_append]
      walk_at "w"
      refine w_dictP (wd ws) (.of ef) pr (fun Dd Hg nDd sg eDd => ?_)
      rw [emg] at eDd
      have nDp : Dd ≠ p := by
        obtain ⟨o, e⟩ := (Pe.keep sf).some_p
        exact (ne_of_none e nDd).symm
      have kp2 : Kp [p] H Hg := kp1.trans (kpd.trans (kpe.trans (same_wo (sf.trans sg) [p])))
      have Pg := Pe.keep (sf.trans sg)
      have eqg := sg _ _ (sf _ _ eqe)
      walk_at "w"
      refine ⟨p, l, _, 3, rfl, Pg, by omega, by omega, by omega, fun Hh d4 kph Ph d40 d41 => ?_⟩
      walk_at "w"
      refine w_slL (.of (kp_at kph (by simpa using nqp) eqg)) (fun qs Hi nqs si eqs => ?_)
      rw [cut_of _ t0.1 d40, ← List.map_drop, ← List.map_take] at eqs
      walk_at "w"
      refine w_tupOfL (.of eqs) (fun S Hj nS sj eS => ?_)
      walk_at "w"
      intro T Hk nT' sk eT'
      have kp3 : Kp [p] H Hk := kp2.trans (kph.trans (same_wo (si.trans (sj.trans sk)) [p]))
      have esub : ws.map (·.2) ++ (xs.drop t.toNat).take d4.toNat = xs.take (t.toNat + d4.toNat) := by
        rw [ex, ← List.take_add]
      refine k Hk T Dd S r h ws ((xs.drop t.toNat).take d4.toNat) kp3 (((Ph.keep si).keep (sj.trans sk)).mono (by omega)) ?_ eT' (sk _ _ (sj _ _ (si _ _ (kp_at kph (by simpa using nDp) eDd)))) (sk _ _ eS) ?_
      · cases hh : H Dd with
        | none => rfl
        | some o =>
          by_cases z : Dd = p
          · exact absurd z nDp
          · have := kp_at (kp1.trans (kpd.trans (kpe.trans (same_wo sf [p])))) (by simpa using z) hh
            rw [nDd] at this; cases this
      · refine ⟨hsh, ndw, fun n hn => hnm n (by rw [← en]; exact hn), fun x hx => hcx x ?_, ?_, ?_, ?_⟩
        · rw [esub] at hx; exact List.mem_of_mem_take hx
        · rw [esub]; exact hpw.sublist (List.take_sublist _ _)
        · have : (ws.map (·.1)).length = ws.length := by simp
          rw [en, hln] at this
          omega
        · rw [List.length_take]; omega
end

/-! Lhp: texts of signs, names, lists of texts asked (plain). -/
def sg (c : Nat) : Str := ⟨#[c]⟩
theorem join_sg (zs : List Nat) : (Txt.join "" (zs.map sg)).cps.toList = zs := by
  have h := tl_join0 (zs.map sg)
  have e : tl (Txt.join "" (zs.map sg)) = (Txt.join "" (zs.map sg)).cps.toList := rfl
  rw [← e, h, List.map_map]
  induction zs with
  | nil => rfl
  | cons c r ih =>
    rw [List.map_cons, List.flatten_cons, ih (tl_join0 _) rfl]
    rfl
theorem len_join_sg (zs : List Nat) : (Txt.join "" (zs.map sg)).length = zs.length := by
  have : (Txt.join "" (zs.map sg)).length = (Txt.join "" (zs.map sg)).cps.toList.length := by simp [Str.length]
  rw [this, join_sg]
theorem sum_sg (zs : List Nat) : ((zs.map sg).map (·.length)).sum = zs.length := by
  induction zs with
  | nil => rfl
  | cons c r ih =>
    rw [List.map_cons, List.map_cons, List.sum_cons, ih, List.length_cons]
    show 1 + r.length = _
    omega
theorem inV_str (x : Str) (xs : List Str) : L2.inV (.str x) (xs.map V.str) = decide (x ∈ xs) := by
  induction xs with
  | nil => rfl
  | cons y r ih =>
    show ((y == x) || L2.inV (.str x) (r.map V.str)) = _
    rw [ih, Bool.eq_iff_iff, Bool.or_eq_true, beq_iff_eq, decide_eq_true_iff, decide_eq_true_iff, List.mem_cons]
    exact or_congr eq_comm Iff.rfl
theorem w_notInS {K : PySem.W.Frag} {a : Addr} {x : Str} {xs : List Str} {H : Hp} {Q : VK} (h : Sq K H a (xs.map V.str)) (k : Q (.bl (!decide (x ∈ xs))) H) : rIn K true (.str x) (.ref a) H Q := by
  refine ⟨a, xs.map V.str, rfl, h, rfl, List.all_eq_true.mpr fun v hv => ?_, by rw [inV_str]; exact k⟩
  obtain ⟨y, _, rfl⟩ := List.mem_map.mp hv
  rfl
theorem w_inS {K : PySem.W.Frag} {a : Addr} {x : Str} {xs : List Str} {H : Hp} {Q : VK} (h : Sq K H a (xs.map V.str)) (k : Q (.bl (decide (x ∈ xs))) H) : rIn K false (.str x) (.ref a) H Q := by
  refine ⟨a, xs.map V.str, rfl, h, rfl, List.all_eq_true.mpr fun v hv => ?_, by rw [inV_str]; exact k⟩
  obtain ⟨y, _, rfl⟩ := List.mem_map.mp hv
  rfl
theorem name_ok {x : Str} (h : isNameS x = true) : 1 ≤ x.length ∧ x.length ≤ 8 ∧ okS x := by
  have h' : (decide (1 ≤ x.length) && decide (x.length ≤ 8) && x.cps.toList.all isLetter) = true := h
  simp only [Bool.and_eq_true, decide_eq_true_iff] at h'
  refine ⟨h'.1.1, h'.1.2, by omega, strOk_iff.mpr fun c hc => ?_⟩
  have l := List.all_eq_true.mp h'.2 c hc
  have : ∀ c ∈ (Str.ofString "abcdefghijklmnopqrstuvwxyz").cps.toList, c < 0x110000 := by decide +kernel
  exact this c (of_decide_eq_true l)
theorem name_mk {x : Str} (h1 : 1 ≤ x.length) (h2 : x.length ≤ 8) (h3 : x.cps.toList.all isLetter = true) : isNameS x = true := by
  show (decide (1 ≤ x.length) && decide (x.length ≤ 8) && x.cps.toList.all isLetter) = true
  rw [decide_eq_true h1, decide_eq_true h2, h3]
  rfl
theorem name_letters {x : Str} (h : isNameS x = true) : x.cps.toList.all isLetter = true := by
  have h' : (decide (1 ≤ x.length) && decide (x.length ≤ 8) && x.cps.toList.all isLetter) = true := h
  rw [Bool.and_eq_true] at h'
  exact h'.2

/-! Lpp: a codebook's parts as drawn (names of one to eight letters). -/
structure PartsB (r h : Int) (ws : List (Str × Str)) (ss : List Str) : Prop where
  rh : 2 ≤ r ∧ r ≤ 4 ∧ 1 ≤ h ∧ h ≤ 6
  nd : (ws.map (·.1)).Nodup
  nm : ∀ n ∈ ws.map (·.1), isNameS n = true
  cd : ∀ x ∈ ws.map (·.2) ++ ss, isCode r h (.str x) = true
  pw : (ws.map (·.2) ++ ss).Pairwise (fun a b => clashS a b = false)
  lw : ws.length ≤ 8
  ls : ss.length ≤ 3
def sp_partsB : Sp := fun vs H Q _ => ∃ (p l : Addr) (b : Nat), vs = [.ref p] ∧ PenAt b p l H ∧ b + 200000 ≤ 1000000000000 ∧
  ∀ H' T D S r h ws ss, Kp [p] H H' → PenAt (b + 1000) p l H' → H D = none → H S = none → H' T = some (.tup [.int r, .int h, .ref D, .ref S]) → H' D = some (.dK (wd ws)) → H' S = some (.lst (ss.map V.str)) → PartsB r h ws ss → Q (.ref T) H'
theorem zip_wd : ∀ (ns xs : List Str), (ns.map (Sum.inr : Str → Key)).zip (xs.map V.str) = wd (ns.zip xs)
  | [], _ => rfl
  | _ :: _, [] => rfl
  | n :: ns, x :: xs => by
    show (Sum.inr n, V.str x) :: _ = (keyS n, V.str x) :: _
    exact congrArg _ (zip_wd ns xs)
theorem zip_pr {K : PySem.W.Frag} {H : Hp} {ts : List Addr} {ns xs : List Str} (h : Paired (fun (t : Addr) (q : Key × V) => H t = some (.tup [kV q.1, q.2])) ts ((ns.map (Sum.inr : Str → Key)).zip (xs.map V.str))) :
    Paired (fun q (kv : Key × V) => SqT K H q [kV kv.1, kv.2]) ts (wd (ns.zip xs)) := by
  rw [zip_wd] at h
  exact L2.Paired.mapP h fun _ _ e => .of e
theorem zip_fst {ns xs : List Str} (h : ns.length ≤ xs.length) : (ns.zip xs).map (·.1) = ns := List.map_fst_zip h
theorem zip_snd {ns xs : List Str} (h : ns.length ≤ xs.length) : (ns.zip xs).map (·.2) = xs.take ns.length := by
  induction ns generalizing xs with
  | nil => rfl
  | cons n r ih =>
    cases xs with
    | nil => simp at h
    | cons x t =>
      show x :: (r.zip t).map (·.2) = x :: t.take r.length
      rw [ih (by simpa using h)]
/-- what makes a codebook of its parts -/
theorem cb_of {H : Hp} {r h : Int} {ws : List (Str × Str)} {ss : List Str} {wv : V} (rh : 2 ≤ r ∧ r ≤ 4 ∧ 1 ≤ h ∧ h ≤ 6) (nm : ∀ n ∈ ws.map (·.1), isNameS n = true) (cd : ∀ x ∈ ws.map (·.2) ++ ss, isCode r h (.str x) = true)
    (pf : pfB (ws.map (·.2) ++ ss) = true) (e : dictOf H wv = some (wd ws)) : cbL H (.int r) (.int h) wv (some (ss.map V.str)) = true := by
  unfold cbL
  rw [e]
  show (isBetw 2 4 (.int r) && isBetw 1 6 (.int h) && (((wd ws).all fun kv => isName (kV kv.1) && isCode r h kv.2) && ((ss.map V.str).all fun y => isCode r h y) && pfB (((wd ws).map (·.2) ++ ss.map V.str).map strOf))) = true
  have es : ((wd ws).map (·.2) ++ ss.map V.str).map strOf = ws.map (·.2) ++ ss := by
    unfold wd
    rw [List.map_append, List.map_map, List.map_map, List.map_map]
    congr 1
    rw [show (strOf ∘ V.str) = fun x => x from rfl]
    simp
  have b1 : isBetw 2 4 (.int r) = true := by show (decide (2 ≤ r) && decide (r ≤ 4)) = true; simp [rh]
  have b2 : isBetw 1 6 (.int h) = true := by show (decide (1 ≤ h) && decide (h ≤ 6)) = true; simp [rh]
  have b3 : ((wd ws).all fun kv => isName (kV kv.1) && isCode r h kv.2) = true := List.all_eq_true.mpr fun kv hm => by
    obtain ⟨q, hq, rfl⟩ := List.mem_map.mp hm
    rw [Bool.and_eq_true]
    exact ⟨nm _ (List.mem_map.mpr ⟨q, hq, rfl⟩), cd _ (List.mem_append_left _ (List.mem_map.mpr ⟨q, hq, rfl⟩))⟩
  have b4 : ((ss.map V.str).all fun y => isCode r h y) = true := List.all_eq_true.mpr fun v hm => by
    obtain ⟨x, hx, rfl⟩ := List.mem_map.mp hm
    exact cd x (List.mem_append_right _ hx)
  rw [b1, b2, b3, b4, es, pf]
  rfl
theorem codes_ok {r h : Int} (r4 : r ≤ 4) (h6 : h ≤ 6) {x : Str} (e : isCode r h (.str x) = true) : okS x ∧ x.length ≤ 6 := by
  obtain ⟨_, q, _, l⟩ := code_str e
  cases q
  exact ⟨⟨by omega, code_ok r4 e⟩, by omega⟩
theorem partsB_cb {H : Hp} {r h : Int} {ws : List (Str × Str)} {ss : List Str} {wv : V} (p : PartsB r h ws ss) (e : dictOf H wv = some (wd ws)) : cbL H (.int r) (.int h) wv (some (ss.map V.str)) = true :=
  cb_of p.rh p.nm p.cd (pfB_of_pw p.pw) e
theorem partsB_ok {r h : Int} {ws : List (Str × Str)} {ss : List Str} (p : PartsB r h ws ss) : (∀ q ∈ ws, okS q.1 ∧ okS q.2 ∧ q.1.length ≤ 8 ∧ q.2.length ≤ 6) ∧ ∀ x ∈ ss, okS x ∧ x.length ≤ 6 := by
  refine ⟨fun q hq => ?_, fun x hx => codes_ok p.rh.2.1 p.rh.2.2.2 (p.cd x (List.mem_append_right _ hx))⟩
  have a := name_ok (p.nm _ (List.mem_map.mpr ⟨q, hq, rfl⟩))
  have b := codes_ok p.rh.2.1 p.rh.2.2.2 (p.cd _ (List.mem_append_left _ (List.mem_map.mpr ⟨q, hq, rfl⟩)))
  exact ⟨a.2.2, b.1, a.2.1, b.2⟩

/-! Lm: codebooks made of right parts. -/
theorem code_iff {r h : Int} {x : Str} : isCode r h (.str x) = true ↔ 1 ≤ x.length ∧ (x.length : Int) ≤ h ∧ ∀ d ∈ tl x, isDig r d = true := by
  show (decide (1 ≤ x.length) && decide ((x.length : Int) ≤ h) && x.cps.toList.all (isDig r)) = true ↔ _
  simp only [Bool.and_eq_true, decide_eq_true_eq, List.all_eq_true, and_assoc]
section
variable {K : PySem.W.Frag} {c : Adr}
theorem made {H1 : Hp} {r h : Int} {a b : Addr} {ws : List (Str × Str)} {ss : List Str} {R : Addr → Hp → Prop} {E : XK} (rh : 2 ≤ r ∧ r ≤ 4 ∧ 1 ≤ h ∧ h ≤ 6) (nd : (ws.map (·.1)).Nodup) (nm : ∀ n ∈ ws.map (·.1), isNameS n = true)
    (cd : ∀ x ∈ ws.map (·.2) ++ ss, isCode r h (.str x) = true) (pf : pfB (ws.map (·.2) ++ ss) = true) (lw : ws.length < 64) (ls : ss.length ≤ 1000) (e : H1 a = some (.dK (wd ws)))
    (hs : ∀ H2, Same H1 H2 → ArgS K H2 (.ref b) (some (ss.map V.str))) (k : ∀ x H3, H1 x = none → Same H1 H3 → BookAt c H3 x r h (srtW ws) (srt ss) → R x H3) :
    ∀ x dx H2, H1 x = none → H1 dx = none → dx ≠ x → Same H1 H2 → H2 x = some (.ins c.Codebook dx []) → sp_init K c [.ref x, .int r, .int h, .ref a, .ref b] H2 (fun v H3 => v = .non ∧ R x H3) E := by
  intro x dx H2 nx ndx nxdx s2 ex
  have e2 := s2 _ _ e
  have cb := cb_of (H := H2) (wv := .ref a) rh nm cd pf (by simp only [dictOf, e2])
  have okw : ∀ q ∈ ws, okS q.1 ∧ okS q.2 := fun q hq =>
    ⟨(name_ok (nm _ (List.mem_map.mpr ⟨q, hq, rfl⟩))).2.2, (codes_ok rh.2.1 rh.2.2.2 (cd _ (List.mem_append_left _ (List.mem_map.mpr ⟨q, hq, rfl⟩)))).1⟩
  exact ⟨x, dx, .int r, .int h, .ref a, .ref b, some (ss.map V.str), rfl, ex, .int r, .int h, any_wd e2 (by omega) okw, hs H2 s2, fun z => absurd (cb.symm.trans z) (by decide), fun _ => ⟨r, h, a, ws, ss, rfl, rfl, rfl, e2, nd, lw, rfl, fun H3 kp3 bk0 => ⟨rfl, k x H3 nx (same_kp1 s2 nx kp3) (bk0.keep (nw_same _ H3))⟩⟩⟩
theorem codes_okS {r h : Int} (rh : 2 ≤ r ∧ r ≤ 4 ∧ 1 ≤ h ∧ h ≤ 6) {ws : List (Str × Str)} {ss : List Str} (cd : ∀ x ∈ ws.map (·.2) ++ ss, isCode r h (.str x) = true) : ∀ x ∈ ss, okS x := fun x hx => (codes_ok rh.2.1 rh.2.2.2 (cd x (List.mem_append_right _ hx))).1
/-- the reserved strings a list or tuple -/
theorem madeL {H1 : Hp} {r h : Int} {a b : Addr} {ws : List (Str × Str)} {ss : List Str} {R : Addr → Hp → Prop} {E : XK} (rh : 2 ≤ r ∧ r ≤ 4 ∧ 1 ≤ h ∧ h ≤ 6) (nd : (ws.map (·.1)).Nodup) (nm : ∀ n ∈ ws.map (·.1), isNameS n = true)
    (cd : ∀ x ∈ ws.map (·.2) ++ ss, isCode r h (.str x) = true) (pf : pfB (ws.map (·.2) ++ ss) = true) (lw : ws.length < 64) (ls : ss.length ≤ 1000) (e : H1 a = some (.dK (wd ws)))
    (hs : H1 b = some (.lst (ss.map V.str)) ∨ H1 b = some (.tup (ss.map V.str))) (k : ∀ x H3, H1 x = none → Same H1 H3 → BookAt c H3 x r h (srtW ws) (srt ss) → R x H3) :
    ∀ x dx H2, H1 x = none → H1 dx = none → dx ≠ x → Same H1 H2 → H2 x = some (.ins c.Codebook dx []) → sp_init K c (.ref x :: ([.int r, .int h, .ref a, .ref b] ++ [])) H2 (fun v H3 => v = .non ∧ R x H3) E :=
  made rh nd nm cd pf lw ls e (fun H2 s => argS_l (hs.elim (fun z => .inl (s _ _ z)) fun z => .inr (s _ _ z)) ls (codes_okS rh cd)) k
/-- no reserved strings given -/
theorem made0 {H1 : Hp} {r h : Int} {a b : Addr} {ws : List (Str × Str)} {R : Addr → Hp → Prop} {E : XK} (rh : 2 ≤ r ∧ r ≤ 4 ∧ 1 ≤ h ∧ h ≤ 6) (nd : (ws.map (·.1)).Nodup) (nm : ∀ n ∈ ws.map (·.1), isNameS n = true)
    (cd : ∀ x ∈ ws.map (·.2) ++ [], isCode r h (.str x) = true) (pf : pfB (ws.map (·.2) ++ []) = true) (lw : ws.length < 64) (e : H1 a = some (.dK (wd ws))) (d0 : ∀ H, SqT K H b [])
    (k : ∀ x H3, H1 x = none → Same H1 H3 → BookAt c H3 x r h (srtW ws) (srt []) → R x H3) :
    ∀ x dx H2, H1 x = none → H1 dx = none → dx ≠ x → Same H1 H2 → H2 x = some (.ins c.Codebook dx []) → sp_init K c (.ref x :: ([.int r, .int h, .ref a] ++ [.ref b])) H2 (fun v H3 => v = .non ∧ R x H3) E :=
  made rh nd nm cd pf lw (by decide) e (fun _ _ => argS_nil d0) k
/-- of drawn parts -/
theorem madeP {H1 : Hp} {r h : Int} {a b : Addr} {ws : List (Str × Str)} {ss : List Str} {R : Addr → Hp → Prop} {E : XK} (pts : PartsB r h ws ss) (e : H1 a = some (.dK (wd ws))) (hs : H1 b = some (.lst (ss.map V.str)) ∨ H1 b = some (.tup (ss.map V.str)))
    (k : ∀ x H3, H1 x = none → Same H1 H3 → BookAt c H3 x r h (srtW ws) (srt ss) → R x H3) :
    ∀ x dx H2, H1 x = none → H1 dx = none → dx ≠ x → Same H1 H2 → H2 x = some (.ins c.Codebook dx []) → sp_init K c (.ref x :: ([.int r, .int h, .ref a, .ref b] ++ [])) H2 (fun v H3 => v = .non ∧ R x H3) E :=
  madeL pts.rh pts.nd pts.nm pts.cd (pfB_of_pw pts.pw) (by have := pts.lw; omega) (by have := pts.ls; omega) e hs k
end
theorem w_disp2 {σ : L2.St} {H : Hp} {Q : VK} (k1 k2 : Key) {y1 y2 : V} (h : New (.dK (mergeK [] [(k1, y1), (k2, y2)])) H Q) : tDisp [(tC (kV k1), tC y1), (tC (kV k2), tC y2)] σ H Q := fun p hp => by
  refine ⟨upd_same, [(k1, y1), (k2, y2)], rfl, (by show 2 ≤ 15; omega), ?_⟩
  exact h p _ hp (same_put (same_upd hp) hp) upd_same

/-! Lpa: a codebook's parts, drawn or given. -/
structure PartsA (r h : Int) (ws : List (Str × Str)) (ss : List Str) : Prop where
  rh : 2 ≤ r ∧ r ≤ 4 ∧ 1 ≤ h ∧ h ≤ 6
  nd : (ws.map (·.1)).Nodup
  nm : ∀ n ∈ ws.map (·.1), isNameS n = true
  cd : ∀ x ∈ ws.map (·.2) ++ ss, isCode r h (.str x) = true
  pw : (ws.map (·.2) ++ ss).Pairwise (fun a b => clashS a b = false)
  lw : ws.length ≤ 12
  ls : ss.length ≤ 3
theorem Parts.rh {r h : Int} {ws : List (Str × Str)} {ss : List Str} (p : Parts r h ws ss) : 2 ≤ r ∧ r ≤ 4 ∧ 1 ≤ h ∧ h ≤ 6 := by
  have hsh := p.sh
  unfold shapes8 at hsh
  simp at hsh
  omega
theorem Parts.a {r h : Int} {ws : List (Str × Str)} {ss : List Str} (p : Parts r h ws ss) : PartsA r h ws ss :=
  ⟨p.rh, p.nd, fun n hn => pool_name (p.nm n hn), p.cd, p.pw, p.lw, by have := p.ls; omega⟩
theorem PartsA.one {r : Int} (h2 : 2 ≤ r) (h4 : r ≤ 4) : PartsA r 1 [("a", "0")] ["1"] := by
  refine ⟨⟨h2, h4, by decide, by decide⟩, by decide, by decide +kernel, ?_, by decide +kernel, by decide, by decide⟩
  have : r = 2 ∨ r = 3 ∨ r = 4 := by omega
  rcases this with rfl | rfl | rfl <;> decide +kernel
theorem PartsA.ok {r h : Int} {ws : List (Str × Str)} {ss : List Str} (p : PartsA r h ws ss) : (∀ q ∈ ws, okS q.1 ∧ okS q.2 ∧ q.1.length ≤ 8 ∧ q.2.length ≤ 6) ∧ ∀ x ∈ ss, okS x ∧ x.length ≤ 6 := by
  obtain ⟨r2, r4, h1, h6⟩ := p.rh
  refine ⟨fun q hq => ?_, fun x hx => codes_ok r4 h6 (p.cd x (List.mem_append_right _ hx))⟩
  have a := name_ok (p.nm _ (List.mem_map.mpr ⟨q, hq, rfl⟩))
  have b := codes_ok r4 h6 (p.cd _ (List.mem_append_left _ (List.mem_map.mpr ⟨q, hq, rfl⟩)))
  exact ⟨a.2.2, b.1, a.2.1, b.2⟩
theorem madeA {K : PySem.W.Frag} {c : Adr} {H1 : Hp} {r h : Int} {a b : Addr} {ws : List (Str × Str)} {ss : List Str} {R : Addr → Hp → Prop} {E : XK} (p : PartsA r h ws ss) (e : H1 a = some (.dK (wd ws)))
    (hs : H1 b = some (.lst (ss.map V.str)) ∨ H1 b = some (.tup (ss.map V.str))) (k : ∀ x H3, H1 x = none → Same H1 H3 → BookAt c H3 x r h (srtW ws) (srt ss) → R x H3) :
    ∀ x dx H2, H1 x = none → H1 dx = none → dx ≠ x → Same H1 H2 → H2 x = some (.ins c.Codebook dx []) → sp_init K c (.ref x :: ([.int r, .int h, .ref a, .ref b] ++ [])) H2 (fun v H3 => v = .non ∧ R x H3) E :=
  madeL p.rh p.nd p.nm p.cd (pfB_of_pw p.pw) (by have := p.lw; omega) (by have := p.ls; omega) e hs k

/-! Lny: any object, drawn. -/
section
variable {P : Program} {w : World} {K : PySem.W.Frag} {mg : Str → Option Value} {base : Heap}
/-- any object, less than n levels deep, made of new places -/
def sp_any (n : Nat) : Sp := fun vs H Q _ => ∃ (p l : Addr) (b : Nat) (lv : Int), vs = [.ref p, .int lv] ∧ 0 ≤ lv ∧ lv < n ∧ PenAt b p l H ∧ b + 4 ^ (n + 1) ≤ 1000000000000 ∧
  ∀ H' v, Kp [p] H H' → PenAt (b + 4 ^ (n + 1)) p l H' → AnyV (nw H H') v → (∀ x, v = .str x → x.length ≤ 100) → Q v H'
theorem any_flat {H : Hp} {d : Int} (d0 : 0 ≤ d) (d1 : d < 11) {v : V} (h : atI [V.int 0, V.int 1, V.int (-1), V.bl true, V.non, V.str "", V.str "0", V.str "a", V.str "aA", V.int (10 ^ (Int.toNat 39)), V.str "10"] d = some v) : AnyV H v ∧ ∀ x, v = .str x → x.length ≤ 100 := by
  have hd : d = 0 ∨ d = 1 ∨ d = 2 ∨ d = 3 ∨ d = 4 ∨ d = 5 ∨ d = 6 ∨ d = 7 ∨ d = 8 ∨ d = 9 ∨ d = 10 := by omega
  rcases hd with rfl | rfl | rfl | rfl | rfl | rfl | rfl | rfl | rfl | rfl | rfl
  · cases h; exact ⟨.int _, fun x e => by cases e⟩
  · cases h; exact ⟨.int _, fun x e => by cases e⟩
  · cases h; exact ⟨.int _, fun x e => by cases e⟩
  · cases h; exact ⟨.bl _, fun x e => by cases e⟩
  · cases h; exact ⟨.non, fun x e => by cases e⟩
  · cases h; exact ⟨.str _ ⟨by decide, by decide +kernel⟩, fun x e => by cases e; decide⟩
  · cases h; exact ⟨.str _ ⟨by decide, by decide +kernel⟩, fun x e => by cases e; decide⟩
  · cases h; exact ⟨.str _ ⟨by decide, by decide +kernel⟩, fun x e => by cases e; decide⟩
  · cases h; exact ⟨.str _ ⟨by decide, by decide +kernel⟩, fun x e => by cases e; decide⟩
  · cases h; exact ⟨.int _, fun x e => by cases e⟩
  · cases h; exact ⟨.str _ ⟨by decide, by decide +kernel⟩, fun x e => by cases e; decide⟩
theorem sc__law_any : FnScope ["pen", "levels", "road", "parts", "turn", "k"] ["pen", "levels"] (defScope s__law_any) := ⟨rfl, rfl, rfl, by decide +kernel, rfl, by decide +kernel, by decide +kernel⟩
theorem ok__law_any {c : Adr} (T : Txt K mg c) (F : At K mg "_law_any" "_law_any" s__law_any) (D__law_draw : DefOk P w K mg base 2 "_law_draw" ["pen", "below"] sp_draw) : ∀ n : Nat, DefOk P w K mg base (3 + n) "_law_any" ["pen", "levels"] (sp_any n)
  | 0 => by
    refine DefOk.of (k := 2) F sc__law_any (fun _ _ _ _ _ _ us hl => match us, hl with | [_, _], _ => rfl) (fun vs H Q E h => ?_) (fun f cdv A outer s H vs Q E hr h => ?_)
    · obtain ⟨p, l, b, lv, rfl, _⟩ := h
      rfl
    · obtain ⟨p, l, b, lv, rfl, h0, h1, _⟩ := h
      exact absurd h1 (by omega)
  | n + 1 => by
    have D__law_any := ok__law_any T F D__law_draw n
    refine DefOk.of (k := 3 + n) F sc__law_any (fun _ _ _ _ _ _ us hl => match us, hl with | [_, _], _ => rfl) (fun vs H Q E h => ?_) (fun f cdv A outer s H vs Q E hr h => ?_)
    · obtain ⟨p, l, b, lv, rfl, _⟩ := h
      rfl
    · obtain ⟨p, l, b, lv, rfl, h0, h1, hP, hb, k⟩ := h
      have hr2 : Room 2 _ := hr.mono (by omega)
      refine ⟨_, (pss_cons (ps_set (i := 2) sc__law_any.nd rfl (Or.inl rfl) (pe_callD D__law_draw hr2 passL (pa_cons (pv 0) (pa_cons (pe_mid (pe_ifExp (pt_cmpR op_gt (pv 1) pe_int (nomark _)) pe_int pe_int)) pa_nil))))
    (pss_cons (ps_if (pt_cmpR op_lt (pv 2) pe_int (nomark _)) (pss_one (ps_ret (pe_ix (ixL (K := K)) (pe_lstN (pa_cons pe_int (pa_cons pe_int (pa_cons (pe_un un_neg pe_int) (pa_cons pe_bl (pa_cons pe_non (pa_cons pe_str (pa_cons pe_str (pa_cons pe_str (pa_cons pe_str (pa_cons (pe_op op_pow pe_int pe_int) (pa_cons pe_str pa_nil)))))))))))) (pv 2) (fun _ _ => rfl))))
      pss_nil)
    (pss_cons (ps_set (i := 3) sc__law_any.nd rfl (Or.inr rfl) (pe_lc (own := [("turn", 4)]) (g := gName 4) (tt := tYes) (by rfl) sc__law_any.nd (pi_range1 (by rfl) T.b_range (pa_cons (pe_callD D__law_draw hr2 passL (pa_cons (pv 0) (pa_cons pe_int pa_nil))) pa_nil)) (blkOk_by (N := ["pen", "levels", "road", "parts", "turn", "k"]) (sc := defScope s__law_any) (by decide +kernel))
    (fun _ _ _ _ _ => (pg_name (i := 4) sc__law_any.nd rfl (Or.inl rfl))) (fun _ _ _ _ _ => pts_nil) (fun _ _ _ _ _ => (pe_callD D__law_any hr passL (pa_cons (pv 0) (pa_cons (pe_op op_sub (pv 1) pe_int) pa_nil))))))
    (pss_cons (ps_if (pt_cmpR op_eq (pv 2) pe_int (nomark _)) (pss_one (ps_ret (pv 3)))
      pss_nil)
    (pss_cons (ps_if (pt_cmpR op_eq (pv 2) pe_int (nomark _)) (pss_one (ps_ret (pe_callTy (cr_dictP (K := K) rfl) (by rfl) T.b_dict (by decide +kernel) (pa_cons (pe_lc (own := [("k", 5)]) (g := gName 5) (tt := tYes) (by rfl) sc__law_any.nd (pi_range1 (by rfl) T.b_range (pa_cons (pe_callB (cr_len (K := K)) (by rfl) T.b_len (by decide +kernel) (pa_cons (pv 3) pa_nil)) pa_nil)) (blkOk_by (N := ["pen", "levels", "road", "parts", "turn", "k"]) (sc := defScope s__law_any) (by decide +kernel))
    (fun _ _ _ _ _ => (pg_name (i := 5) sc__law_any.nd rfl (Or.inl rfl))) (fun _ _ _ _ _ => pts_nil) (fun _ _ _ _ _ => (pe_tupN (pa_cons (pe_ix (ixL (K := K)) (pe_lstN (pa_cons pe_str (pa_cons pe_str (pa_cons pe_str (pa_cons pe_int pa_nil))))) (pv 5) (fun _ _ => rfl)) (pa_cons (pe_ix (ixL (K := K)) (pv 3) (pv 5) (fun _ _ => rfl)) pa_nil))))) pa_nil))))
      pss_nil)
    (pss_one (ps_ret (pe_callTy (cr_tupOf (K := K)) (by rfl) T.b_tuple (by decide +kernel) (pa_cons (pv 3) pa_nil))))))))), ?_⟩
      walk_at "w"
      refine w_mid (fun v H' => H' = H ∧ ∃ n' : Int, v = .int n' ∧ ((0 < lv ∧ n' = 15) ∨ (lv = 0 ∧ n' = 11))) ?_ ?_
      · walk_at "w"
        refine ifD (fun q => ?_) (fun q => ?_)
        · walk_at "w"
          exact ⟨rfl, _, rfl, .inl ⟨q, rfl⟩⟩
        · walk_at "w"
          exact ⟨rfl, _, rfl, .inr ⟨by omega, rfl⟩⟩
      rintro v H' ⟨rfl, n', rfl, hn⟩
      walk_at "w"
      have pw : 4 ≤ 4 ^ (n + 1) := by
        have : 4 ^ 1 ≤ 4 ^ (n + 1) := Nat.pow_le_pow_right (by decide) (by omega)
        simpa using this
      have pw2 : 4 ^ (n + 1 + 1) = 4 * 4 ^ (n + 1) := by rw [Nat.pow_succ]; omega
      refine ⟨p, l, b, n', rfl, hP, by omega, by omega, by omega, fun H1 d k1 P1 d0 d1 => ?_⟩
      walk_at "w"
      refine ifD (fun q => ?_) (fun q => ?_)
      · walk_at "w"
        refine fun a H2 ha s2 e2 => ?_
        walk_at "w"
        obtain ⟨v, hv, _⟩ := at_in (xs := [V.int 0, V.int 1, V.int (-1), V.bl true, V.non, V.str "", V.str "0", V.str "a", V.str "aA", V.int (10 ^ (Int.toNat 39)), V.str "10"]) d0 q
        refine w_ixL (.of e2) hv ?_
        exact k _ _ (k1.trans (same_wo s2 _)) ((P1.keep s2).mono (by omega)) (any_flat d0 q hv).1 (any_flat (H := H2) d0 q hv).2
      · have lp : 0 < lv ∧ n' = 15 := by omega
        walk_at "w"
        refine ⟨p, l, _, 4, rfl, P1, by omega, by omega, by omega, fun H2 t k2 P2 t0 t1 => ?_⟩
        walk_at "w"
        refine w_exR1 t0 (by omega) ?_
        intro D hD
        have k12 := k1.trans k2
        have hS : ∀ c ∈ [p], ∃ o, H' c = some o := fun c hc => by
          obtain rfl := List.mem_singleton.mp hc
          exact hP.some_p
        have dom2 : Dom H' H2 := Dom.of_kp k12 (fun c hc => by obtain rfl := List.mem_singleton.mp hc; exact P2.some_p)
        have nD : H' D = none := by
          cases e : H' D with
          | none => rfl
          | some o => obtain ⟨o', e'⟩ := dom2 D o e; rw [hD] at e'; cases e'
        refine lc_st walk_range (fun i acc H3 => Kp [p] H2 H3 ∧ PenAt (b + 2 + 4 ^ (n + 1) * i) p l H3 ∧ ∀ v ∈ acc, AnyV (nw (upd H2 D (.lst [])) H3) v) (by omega) ?_ ⟨kp_new (Same.refl _) hD, P2.keep (same_upd hD), fun _ h => nomatch h⟩ (fun _ _ _ _ => trivial) ?_ ?_
        · rintro i acc H3 H4 kd ⟨s1, P3, ha⟩
          refine ⟨kp_kp s1 hD kd, P3.kp (P2.ne_p hD) (P2.ne_l hD) kd, fun v hv => (ha v hv).keep (nw_kp (fun c hc => ?_) kd)⟩
          obtain rfl := List.mem_singleton.mp hc
          exact ⟨_, upd_same⟩
        · rintro i x acc H3 H4 Ky Kn hi hl ⟨s1, P3, ha⟩ eD ⟨rfl, rfl⟩ ky kn
          walk_at "w"
          have pwi : 4 ^ (n + 1) * i + 4 ^ (n + 1) ≤ 4 ^ (n + 1) * 3 := by
            have : i + 1 ≤ 3 := by omega
            calc 4 ^ (n + 1) * i + 4 ^ (n + 1) = 4 ^ (n + 1) * (i + 1) := by rw [Nat.mul_succ]
              _ ≤ 4 ^ (n + 1) * 3 := Nat.mul_le_mul_left _ this
          refine ⟨p, l, _, lv - 1, rfl, by omega, by omega, P3, by omega, fun H5 v k5 P5 a5 _ => ?_⟩
          refine ky _ _ (kp_at k5 (by simpa using Ne.symm (P2.ne_p hD)) eD) ⟨s1.trans k5, P5.mono (by rw [Nat.mul_succ]; omega), fun u hu => ?_⟩
          have dm : Dom (upd H2 D (.lst [])) H4 := fun c o e => by
            by_cases q : c = D
            · rw [q]; exact ⟨_, eD⟩
            · rw [upd_ne q] at e
              exact Dom.of_kp s1 (fun c hc => by obtain rfl := List.mem_singleton.mp hc; exact P3.some_p) c o e
          rcases List.mem_append.mp hu with hu | hu
          · refine (ha u hu).keep (nw_kp (fun c hc => ?_) k5)
            obtain rfl := List.mem_singleton.mp hc
            obtain ⟨o, e⟩ := P2.some_p
            exact ⟨o, same_upd hD _ _ e⟩
          · obtain rfl := List.mem_singleton.mp hu
            exact a5.keep (nw_dom dm)
        · rintro acc H3 hl e ⟨s1, P3, ha⟩
          have k13 := k12.trans s1
          have P4 : PenAt (b + 4 ^ (n + 1 + 1)) p l H3 := P3.mono (by
            have : 4 ^ (n + 1) * t.toNat ≤ 4 ^ (n + 1) * 3 := Nat.mul_le_mul_left _ (by omega)
            omega)
          have ha' : ∀ v ∈ acc, AnyV (nw H' H3) v := fun v hv => (ha v hv).keep (nw_dom (dom2.trans (Dom.of_same (same_upd hD))))
          have hlen : acc.length ≤ 3 := by omega
          walk_at "w"
          refine ifD (fun q1 => ?_) (fun q1 => ?_)
          · walk_at "w"
            exact k _ _ k13 P4 (.lst (nw_at nD e) (by omega) ha') (fun x e => nomatch e)
          · walk_at "w"
            refine ifD (fun q2 => ?_) (fun q2 => ?_)
            · walk_at "w"
              refine w_lenL (.of e) ?_
              walk_at "w"
              refine w_exR1 (by omega) (by omega) ?_
              intro D2 hD2
              refine lc_rel walk_range (fun i v H => ∃ T x, v = .ref T ∧ H T = some (.tup [kV (([.inr "a", .inr "b", .inr "c", .inl 0] : List Key).getD i (.inl 0)), x]) ∧ acc[i]? = some x) ?_ (by omega) hD2 (fun _ _ => trivial)
                (fun _ _ _ _ y => by obtain ⟨z, _⟩ := y; rw [z]; exact Same.refl _) ?_ ?_
              · rintro i v H5 H6 s ⟨T, x, r, h, q⟩
                exact ⟨T, x, r, s _ _ h, q⟩
              · rintro i x H5 H6 Ky hi s5 ⟨oD, eD⟩ ⟨rfl, rfl⟩ ky
                walk_at "w"
                refine fun a H7 ha7 s7 e7 => ?_
                walk_at "w"
                have hi3 : i < 3 := by omega
                obtain ⟨u, hu, _, hu2⟩ := at_in (xs := [V.str "a", V.str "b", V.str "c", V.int 0]) (i := 0 + (i : Int)) (by omega) (by simp; omega)
                have eu : u = kV (([.inr "a", .inr "b", .inr "c", .inl 0] : List Key).getD i (.inl 0)) := by
                  have z : (0 + (i : Int)).toNat = i := by omega
                  rw [z] at hu2
                  have : i = 0 ∨ i = 1 ∨ i = 2 := by omega
                  rcases this with rfl | rfl | rfl <;> (cases hu2; rfl)
                refine w_ixL (.of e7) hu ?_
                walk_at "w"
                obtain ⟨x, hx, _, hx2⟩ := at_in (xs := acc) (i := 0 + (i : Int)) (by omega) (by omega)
                refine w_ixL (.of (s7 _ _ (s5 _ _ e))) hx ?_
                walk_at "w"
                refine fun T H8 hT s8 e8 => ?_
                have zi : (0 + (i : Int)).toNat = i := by omega
                rw [zi] at hx2
                refine ky _ _ (s7.trans s8) ⟨T, x, rfl, wo_of ?_ (by rw [e8, eu]), hx2⟩
                simpa using (ne_of_none (s7 _ _ eD) hT).symm
              · rintro ys H5 hl5 hR s5 e5
                walk_at "w"
                have hl6 : ys.length = acc.length := by simpa using hl5
                obtain ⟨ey, hp⟩ := pairs_ok (K := K) (H := H5) (ys := ys) (kvs := acc.mapIdx fun i x => (([.inr "a", .inr "b", .inr "c", .inl 0] : List Key).getD i (.inl 0), x)) (by rw [List.length_mapIdx]; exact hl6) (fun i v kv h1 h2 => by
                  obtain ⟨T, x, rfl, eT, ex⟩ := hR i v h1
                  rw [List.getElem?_mapIdx, ex] at h2
                  have h2' := Option.some.inj h2
                  subst h2'
                  exact ⟨T, rfl, eT⟩)
                rw [ey] at e5
                refine w_dictP _ (.of e5) hp (fun a H6 hA s6 e6 => ?_)
                have nA : H' a = none := by
                  cases z : H' a with
                  | none => rfl
                  | some o =>
                    obtain ⟨o', e'⟩ := Dom.of_kp k13 (fun c hc => by obtain rfl := List.mem_singleton.mp hc; exact P3.some_p) a o z
                    rw [s5 _ _ e'] at hA; cases hA
                have all : ∀ kv ∈ mergeK [] (acc.mapIdx fun i x => (([.inr "a", .inr "b", .inr "c", .inl 0] : List Key).getD i (.inl 0), x)), okK kv.1 ∧ AnyV (nw H' H6) kv.2 :=
                  all_mergeK (Pr := fun k v => okK k ∧ AnyV (nw H' H6) v) (fun kv hm => by
                    obtain ⟨i, hi, rfl⟩ := List.mem_mapIdx.mp hm
                    refine ⟨?_, (ha' _ (List.getElem_mem hi)).keep (nw_mono (s5.trans s6))⟩
                    have : i = 0 ∨ i = 1 ∨ i = 2 := by omega
                    rcases this with rfl | rfl | rfl
                    · exact ⟨by decide, by decide +kernel⟩
                    · exact ⟨by decide, by decide +kernel⟩
                    · exact ⟨by decide, by decide +kernel⟩) (fun kv hm => nomatch hm)
                exact k _ _ (k13.trans (same_wo (s5.trans s6) _)) (P4.keep (s5.trans s6)) (.dK (nw_at nA e6) (by
                  have := length_mergeK (acc.mapIdx fun i x => (([.inr "a", .inr "b", .inr "c", .inl 0] : List Key).getD i (.inl 0), x)) []
                  rw [List.length_mapIdx] at this
                  have h4 : ([] : List (Key × V)).length = 0 := rfl
                  omega) (fun kv hm => (all kv hm).1) (fun kv hm => (all kv hm).2)) (fun x e => nomatch e)
            · walk_at "w"
              refine w_tupOfL (.of e) (fun a H4 hA s4 e4 => ?_)
              have nA : H' a = none := by
                cases z : H' a with
                | none => rfl
                | some o =>
                  obtain ⟨o', e'⟩ := Dom.of_kp k13 (fun c hc => by obtain rfl := List.mem_singleton.mp hc; exact P3.some_p) a o z
                  rw [hA] at e'; cases e'
              exact k _ _ (k13.trans (same_wo s4 _)) (P4.keep s4) (.tup (nw_at nA e4) (by omega) fun v hv => (ha' v hv).keep (nw_mono s4)) (fun x e => nomatch e)

end

/-! Ksh: what repr shows of fine data is a fine text. -/
theorem ok_app {a b : Str} (ha : PyData.strOk a = true) (hb : PyData.strOk b = true) : PyData.strOk (a ++ b) = true := by
  refine strOk_iff.mpr fun c hc => ?_
  have hc' : c ∈ tl (a ++ b) := hc
  rw [tl_append] at hc'
  rcases List.mem_append.mp hc' with z | z
  · exact strOk_iff.mp ha c z
  · exact strOk_iff.mp hb c z
theorem char_lt (c : Char) : c.toNat < 0x110000 := by
  have h := c.valid
  unfold UInt32.isValidChar Nat.isValidChar at h
  have e : c.toNat = c.val.toNat := rfl
  omega
theorem reprChar_ok {q c : Nat} (hq : q < 0x110000) (hc : c < 0x110000) : ∀ d ∈ Builtin.Str.reprChar q c, d < 0x110000 := by
  intro d hd
  have hx : ∀ w : Nat, ∀ d ∈ List.replicate (w - ((Nat.toDigits 16 c).map Char.toNat).length) 48 ++ (Nat.toDigits 16 c).map Char.toNat, d < 0x110000 := fun w d hd => by
    rcases List.mem_append.mp hd with h | h
    · rw [List.eq_of_mem_replicate h]; decide
    · obtain ⟨x, _, rfl⟩ := List.mem_map.mp h
      exact char_lt x
  unfold Builtin.Str.reprChar at hd
  simp only at hd
  split at hd
  · simp at hd; omega
  split at hd
  · simp at hd; omega
  split at hd
  · simp at hd; omega
  split at hd
  · simp at hd; omega
  split at hd
  · simp at hd; omega
  split at hd
  · rcases List.mem_append.mp hd with h | h
    · simp at h; omega
    · exact hx 2 d h
  split at hd
  · rcases List.mem_append.mp hd with h | h
    · simp at h; omega
    · exact hx 4 d h
  · rcases List.mem_append.mp hd with h | h
    · simp at h; omega
    · exact hx 8 d h
theorem foldl_repr_ok {q : Nat} (hq : q < 0x110000) : ∀ (l : List Nat) (acc : Array Nat), (∀ c ∈ l, c < 0x110000) → (∀ d ∈ acc.toList, d < 0x110000) → ∀ d ∈ (l.foldl (fun out c => out ++ (Builtin.Str.reprChar q c).toArray) acc).toList, d < 0x110000
  | [], _, _, h => h
  | c :: r, acc, hl, h => by
    rw [List.foldl_cons]
    refine foldl_repr_ok hq r _ (fun c hc => hl c (List.mem_cons_of_mem _ hc)) fun d hd => ?_
    rw [Array.toList_append] at hd
    rcases List.mem_append.mp hd with z | z
    · exact h d z
    · exact reprChar_ok hq (hl c List.mem_cons_self) d z
theorem quote_lt (x : Str) : reprQuote x < 0x110000 := by
  unfold reprQuote
  split <;> decide
theorem reprText_ok {x : Str} (h : PyData.strOk x = true) : PyData.strOk (reprText x) = true := by
  refine strOk_iff.mpr fun c hc => ?_
  unfold reprText at hc
  rw [Array.toList_push, ← Array.foldl_toList] at hc
  rcases List.mem_append.mp hc with z | z
  · exact foldl_repr_ok (quote_lt x) _ _ (strOk_iff.mp h) (fun d hd => by
      simp at hd
      rw [hd]
      exact quote_lt x) c z
  · rw [List.mem_singleton.mp z]
    exact quote_lt x
theorem ofString_ok (z : String) : PyData.strOk (Str.ofString z) = true := by
  refine strOk_iff.mpr fun c hc => ?_
  rw [Str.ofString_eq_toList] at hc
  simp at hc
  obtain ⟨x, _, rfl⟩ := hc
  exact char_lt x
theorem joinS_ok {a : Str} {ys : List Str} (ha : PyData.strOk a = true) (h : ∀ y ∈ ys, PyData.strOk y = true) : PyData.strOk (Str.join a ys) = true := by
  have j := join_ok ha h
  first
    | exact j
    | (rw [join_eq] at j; exact j)
    | (rw [Txt.join_eq] at j; exact j)
theorem list_ok {ts : List Str} (h : ∀ t ∈ ts, PyData.strOk t = true) : PyData.strOk (listText ts) = true := by
  rw [listText_eq_join]
  exact ok_app (ok_app (ofString_ok _) (joinS_ok (ofString_ok _) h)) (ofString_ok _)
theorem tuple_ok {ts : List Str} (h : ∀ t ∈ ts, PyData.strOk t = true) : PyData.strOk (tupleText ts) = true := by
  unfold tupleText
  exact ok_app (ok_app (ofString_ok _) (joinS_ok (ofString_ok _) h)) (ofString_ok _)
theorem dict_ok {ts : List Str} (h : ∀ t ∈ ts, PyData.strOk t = true) : PyData.strOk (dictText ts) = true := by
  unfold dictText
  exact ok_app (ok_app (ofString_ok _) (joinS_ok (ofString_ok _) h)) (ofString_ok _)
mutual
theorem shown_ok : ∀ d : PyData, fineD d = true → PyData.strOk d.shown = true
  | .none, _ => by simp only [PyData.shown]; exact ofString_ok _
  | .bool b, _ => by simp only [PyData.shown]; cases b <;> exact ofString_ok _
  | .int i, h => by simp only [PyData.shown]; exact ofString_ok _
  | .str x, h => by
    simp only [PyData.shown]
    exact reprText_ok (by simpa [fineD] using h)
  | .list xs, h => by
    simp only [PyData.shown]
    exact list_ok (shownAll_ok xs (by simpa [fineD] using h))
  | .tuple xs, h => by
    simp only [PyData.shown]
    exact tuple_ok (shownAll_ok xs (by simpa [fineD] using h))
  | .dict kvs, h => by
    simp only [PyData.shown]
    exact dict_ok (shownKv_ok kvs (by simpa [fineD] using h))
theorem shownAll_ok : ∀ xs : List PyData, fineAll xs = true → ∀ t ∈ PyData.shownAll xs, PyData.strOk t = true
  | [], _ => fun t h => by simp [PyData.shownAll] at h
  | x :: xs, h => by
    have h' : fineD x = true ∧ fineAll xs = true := by simpa [fineAll] using h
    intro t ht
    simp only [PyData.shownAll] at ht
    rcases List.mem_cons.mp ht with rfl | ht
    · exact shown_ok x h'.1
    · exact shownAll_ok xs h'.2 t ht
theorem shownKv_ok : ∀ xs : List (PyData × PyData), fineKv xs = true → ∀ t ∈ PyData.shownKv xs, PyData.strOk t = true
  | [], _ => fun t h => by simp [PyData.shownKv] at h
  | (k, v) :: r, h => by
    have h' : (fineD k = true ∧ fineD v = true) ∧ fineKv r = true := by simpa [fineKv, Bool.and_eq_true] using h
    intro t ht
    simp only [PyData.shownKv] at ht
    rcases List.mem_cons.mp ht with rfl | ht
    · exact ok_app (ok_app (shown_ok k h'.1.1) (ofString_ok _)) (shown_ok v h'.1.2)
    · exact shownKv_ok r h'.2 t ht
end

/-! Kod0: odd things, told as data; outcomes of caught errors. -/
theorem logS {n : Nat} (h : n ≤ 1000000000) : n.log2 < 1920 := by
  by_cases z : n = 0
  · rw [z]; decide
  · exact Nat.lt_of_lt_of_le ((Nat.log2_lt z).mpr (show n < 2 ^ 30 by omega)) (by decide)
theorem w_gunl {n : Nat} {a : Addr} {xs : List V} {t : TGs} {σ : L2.St} {H : Hp} {K : PySem.W.Frag} {R : L2.St → Hp → Prop} (h1 : SqL K H a xs) (h2 : xs.length = n) (h : t xs σ H R) : gUnl K n t (.ref a) σ H R := ⟨a, xs, rfl, h1, h2, h⟩
theorem pg_unlK {X : Cx} {K : PySem.W.Frag} {es : List Expr} {k : Nat} {t : TGs} {n : Nat} {pos : Pos} (hc : X.calm = true) (h : PGs X es t) (hK : X.K = K := by rfl)
    (hn : (assignEach es X.env).length = n := by rfl) (hst : (assignEach es X.env).findIdx? (·.1) = none := by rfl) : PG X (.Tuple es k pos) (gUnl K n t) := by subst hK; exact pg_unl hc h hn hst
/-- isinstance(caught, C) -/
theorem w_isX {K : PySem.W.Frag} {mg : Str → Option Value} {n : Str} {a C D : Addr} {d : Option Addr} {b : Bool} {H : Hp} {Q : VK} (ea : H a = some (exO (.ref C) d a)) (dd : DictAt H d) (i : ExcC K C) (q : CatF K mg n D) (self : PySem.W.subIn K (.ref C) (.ref C) = some true) (s : PySem.W.subIn K (.ref C) (.ref D) = some b) (k : Q (.bl b) H) : rIsiX K [.ref a, .ref D] H Q :=
  ⟨a, C, d, _, _, b, rfl, ea, dd, i, .own _, q.kit self s, k⟩
theorem countT (bs : List Bool) : (bs.countP fun c => c == true) = bs.countP id := by
  refine List.countP_congr fun c _ => ?_
  cases c <;> decide
def dkey : PyData → Option Key
  | .int i => some (.inl i)
  | .str x => some (.inr x)
  | _ => none
/-- a dict's keys are apart, and few -/
def ndD : PyData → Bool
  | .dict kvs => decide ((kvs.map fun p => dkey p.1).Nodup) && Nat.ble kvs.length 30
  | _ => true
theorem nodup_map_of {α β : Type} {f : α → β} : ∀ {xs : List α}, (xs.map f).Nodup → xs.Nodup
  | [], _ => List.nodup_nil
  | x :: xs, h => by
    rw [List.map_cons, List.nodup_cons] at h
    exact List.nodup_cons.mpr ⟨fun z => h.1 (List.mem_map_of_mem z), nodup_map_of h.2⟩
theorem Dq.nd {H : Hp} {a : Addr} {d : PyData} {kvs : List (Key × V)} (h : Dq H (.ref a) d) (e : H a = some (.dK kvs)) (n : ndD d = true) : (kvs.map (·.1)).Nodup ∧ kvs.length ≤ 30 := by
  cases h with
  | lst e' _ => rw [e'] at e; cases e
  | tup e' _ => rw [e'] at e; cases e
  | @dK _ kvs' ds e' r =>
    rw [e'] at e
    cases e
    have l := r.len
    rw [List.length_map] at l
    unfold ndD at n
    rw [Bool.and_eq_true, decide_eq_true_iff] at n
    obtain ⟨n1, n2⟩ := n
    have ez : (((kvs.map fun p => fD (kV p.1)).zip ds).map fun p => dkey p.1) = kvs.map fun p => dkey (fD (kV p.1)) := by
      have z : (((kvs.map fun p => fD (kV p.1)).zip ds).map (·.1)) = kvs.map fun p => fD (kV p.1) := List.map_fst_zip (by rw [List.length_map]; omega)
      calc (((kvs.map fun p => fD (kV p.1)).zip ds).map fun p => dkey p.1) = (((kvs.map fun p => fD (kV p.1)).zip ds).map (·.1)).map dkey := by rw [List.map_map]; rfl
        _ = _ := by rw [z, List.map_map]; rfl
    rw [ez] at n1
    have e2 : (kvs.map fun p => dkey (fD (kV p.1))) = (kvs.map (·.1)).map some := by
      rw [List.map_map]
      refine List.map_congr_left fun p _ => ?_
      obtain ⟨k, v⟩ := p
      cases k <;> rfl
    rw [e2] at n1
    have n2' := Nat.le_of_ble_eq_true n2
    rw [List.length_zip, List.length_map, l, Nat.min_self] at n2'
    exact ⟨nodup_map_of n1, n2'⟩
/-- small data: read at places that N allows -/
def Sm (N : Addr → Prop) (p q : Nat) (H : Hp) (v : V) : Prop := ∃ d, Dq (rs N H) v d ∧ okD p q d = true ∧ ndD d = true
theorem Sm.keep {N : Addr → Prop} {p q : Nat} {H H' : Hp} {v : V} (h : Sm N p q H v) (s : Same (rs N H) (rs N H')) : Sm N p q H' v := let ⟨d, x, y⟩ := h; ⟨d, x.keep s, y⟩
theorem Sm.any {N : Addr → Prop} {p q : Nat} {H : Hp} {v : V} (h : Sm N p q H v) : AnyV H v ∧ Rb H v p q := by
  obtain ⟨d, x, y, _⟩ := h
  exact okD_any (x.keep (rs_same N H)) y
theorem Sm.nd {N : Addr → Prop} {p q : Nat} {H : Hp} {a : Addr} {kvs : List (Key × V)} (h : Sm N p q H (.ref a)) (e : H a = some (.dK kvs)) : (kvs.map (·.1)).Nodup ∧ kvs.length ≤ 30 := by
  obtain ⟨d, x, _, n⟩ := h
  exact (x.keep (rs_same N H)).nd e n
theorem Sm.int {N : Addr → Prop} {p q : Nat} {H : Hp} {i : Int} (h : i.natAbs ≤ 1000000000) (hp : 1 ≤ p) (hq : 1921 ≤ q) : Sm N p q H (.int i) := by
  refine ⟨.int i, .int i, ?_, rfl⟩
  unfold okD
  simp only [Bool.and_eq_true]
  refine ⟨⟨⟨rfl, by simp only [fineD]; exact decide_eq_true (logS h)⟩, ?_⟩, ?_⟩
  · exact Nat.ble_eq_true_of_le (by simp only [PyData.depth]; omega)
  · exact Nat.ble_eq_true_of_le (by simp only [wtD]; omega)
/-- an item of a list of small data -/
theorem sm_at {N : Addr → Prop} {p q : Nat} {H : Hp} {vs : List V} {ds : List PyData} (h : Dqs (rs N H) vs ds) (o : (ds.all fun d => okD p q d && ndD d) = true) {t : Int} (h0 : 0 ≤ t) (h1 : t < ds.length) : ∃ v, atI vs t = some v ∧ v ∈ vs ∧ Sm N p q H v := by
  obtain ⟨v, e1, e2, e3⟩ := at_in (xs := vs) h0 (by rw [← h.len]; exact h1)
  obtain ⟨d, hd, r⟩ := h.mem e2
  have := List.all_eq_true.mp o d hd
  rw [Bool.and_eq_true] at this
  exact ⟨v, e1, e2, d, r, this⟩
theorem BookAt.kps {c : Adr} {S : List Addr} {H H' : Hp} {b : Addr} {r h : Int} {ws : List (Str × Str)} {bl : List Str} (n : ∀ a ∈ S, okind (H a) ≤ 1) (k : Kp S H H') (bk : BookAt c H b r h ws bl) : BookAt c H' b r h ws bl := by
  obtain ⟨⟨dx, B, T', g1, g2, g3⟩, bb⟩ := bk
  have go : ∀ {x : Addr} {o : HO}, H x = some o → 2 ≤ okind (some o) → H' x = some o := fun {x o} e z => kp_at k (fun m => by have := n x m; rw [e] at this; omega) e
  exact ⟨⟨dx, B, T', go g1 (show 2 ≤ 4 by decide), go g2 (show 2 ≤ 3 by decide), go g3 (show 2 ≤ 2 by decide)⟩, bb⟩
theorem BookAt.kp {c : Adr} {H H' : Hp} {b p l : Addr} {b0 : Nat} {r h : Int} {ws : List (Str × Str)} {bl : List Str} (P : PenAt b0 p l H) (k : Kp [p] H H') (bk : BookAt c H b r h ws bl) : BookAt c H' b r h ws bl :=
  bk.kps (fun a ha => by rw [List.mem_singleton.mp ha, (pn_ex P).1]; decide) k

/-! Kod1: small things put together. -/
theorem putK_nd' {kvs : List (Key × V)} {k : Key} {v : V} (nd : (kvs.map (·.1)).Nodup) : ((putK kvs k v).map (·.1)).Nodup ∧ (putK kvs k v).length ≤ kvs.length + 1 := by
  unfold putK
  split
  · have e : (kvs.map fun kv => if kv.1 = k then (kv.1, v) else kv).map (·.1) = kvs.map (·.1) := by
      rw [List.map_map]
      refine List.map_congr_left fun kv _ => ?_
      show (if kv.1 = k then (kv.1, v) else kv).1 = kv.1
      split <;> rfl
    rw [e]
    refine ⟨nd, ?_⟩
    rw [List.length_map]
    omega
  · rename_i h
    refine ⟨?_, by simp⟩
    rw [List.map_append, List.nodup_append]
    refine ⟨nd, by simp, fun a ha b hb e => ?_⟩
    rw [List.map_cons, List.map_nil, List.mem_singleton] at hb
    refine h (List.any_eq_true.mpr ?_)
    obtain ⟨kv, hkv, rfl⟩ := List.mem_map.mp ha
    exact ⟨kv, hkv, decide_eq_true (e.trans hb)⟩
theorem mergeK_nd' : ∀ {more kvs : List (Key × V)}, (kvs.map (·.1)).Nodup → ((mergeK kvs more).map (·.1)).Nodup ∧ (mergeK kvs more).length ≤ kvs.length + more.length
  | [], kvs, nd => ⟨nd, by simp [mergeK]⟩
  | kv :: more, kvs, nd => by
    obtain ⟨h1, h2⟩ := putK_nd' (k := kv.1) (v := kv.2) nd
    obtain ⟨h3, h4⟩ := mergeK_nd' (more := more) h1
    have e : mergeK kvs (kv :: more) = mergeK (putK kvs kv.1 kv.2) more := rfl
    rw [e]
    refine ⟨h3, ?_⟩
    rw [List.length_cons]
    omega
/-- small data at places that N allows: at most p levels, weight q -/
def Od (N : Addr → Prop) (H : Hp) (p q : Nat) (v : V) : Prop := ∃ d, Dq (rs N H) v d ∧ smD d = true ∧ fineD d = true ∧ d.depth ≤ p ∧ wtD d ≤ q
section
variable {N : Addr → Prop} {H H' : Hp} {p q : Nat}
theorem Od.keep {v : V} (h : Od N H p q v) (s : Same (rs N H) (rs N H')) : Od N H' p q v := let ⟨d, x, y⟩ := h; ⟨d, x.keep s, y⟩
theorem Od.mono {v : V} {p' q' : Nat} (h : Od N H p q v) (h1 : p ≤ p') (h2 : q ≤ q') : Od N H p' q' v := let ⟨d, x, a, b, c, e⟩ := h; ⟨d, x, a, b, Nat.le_trans c h1, Nat.le_trans e h2⟩
theorem Od.any {v : V} (h : Od N H p q v) : AnyV H v ∧ Rb H v p q := let ⟨d, x, a, b, c, e⟩ := h; ⟨(x.keep (rs_same N H)).any a, d, x.keep (rs_same N H), b, c, e⟩
theorem Od.of {v : V} {d : PyData} (x : Dq (rs N H) v d) (o : okD p q d = true) : Od N H p q v := by
  unfold okD at o
  simp only [Bool.and_eq_true] at o
  exact ⟨d, x, o.1.1.1, o.1.1.2, Nat.le_of_ble_eq_true o.1.2, Nat.le_of_ble_eq_true o.2⟩
theorem Od.str {x : Str} (h : okS x) {q : Nat} (l : 10 * x.length + 2 ≤ q) : Od N H 0 q (.str x) :=
  ⟨_, .str x, by show (decide (x.length ≤ 20000) && PyData.strOk x) = true; rw [decide_eq_true h.1, h.2]; rfl, by simp only [fineD]; exact h.2, by simp only [PyData.depth]; omega, by simp only [wtD]; exact l⟩
theorem Od.int {i : Int} (h : i.natAbs ≤ 1000000000) {q : Nat} (l : 1921 ≤ q) : Od N H 0 q (.int i) :=
  ⟨_, .int i, rfl, by simp only [fineD]; exact decide_eq_true (logS h), by simp only [PyData.depth]; omega, by simp only [wtD]; omega⟩
theorem Od.non {q : Nat} (l : 4 ≤ q) : Od N H 0 q .non := ⟨_, .non, rfl, rfl, by simp only [PyData.depth]; omega, by simp only [wtD]; omega⟩
theorem Od.bl {b : Bool} {q : Nat} (l : 5 ≤ q) : Od N H 0 q (.bl b) := ⟨_, .bl b, rfl, rfl, by simp only [PyData.depth]; omega, by simp only [wtD]; omega⟩
theorem Od.all : ∀ {xs : List V}, (∀ x ∈ xs, Od N H p q x) → ∃ ds, Dqs (rs N H) xs ds ∧ smAll ds = true ∧ fineAll ds = true ∧ PyData.depthAll ds ≤ p ∧ wtAll ds ≤ xs.length * (q + 2)
  | [], _ => ⟨[], .nil, rfl, rfl, by simp only [PyData.depthAll]; omega, by simp only [wtAll]; omega⟩
  | x :: xs, h => by
    obtain ⟨d, a1, a0, a2, a3, a4⟩ := h x List.mem_cons_self
    obtain ⟨ds, b1, b0, b2, b3, b4⟩ := Od.all (xs := xs) fun y hy => h y (List.mem_cons_of_mem _ hy)
    refine ⟨d :: ds, .cons a1 b1, by simp only [smAll, a0, b0]; rfl, by simp only [fineAll, a2, b2]; rfl, by simp only [PyData.depthAll]; omega, ?_⟩
    simp only [wtAll]
    rw [List.length_cons, Nat.succ_mul]
    omega
theorem Od.lst {a : Addr} {xs : List V} (n : N a) (e : H a = some (.lst xs)) (l : xs.length ≤ 1000) (h : ∀ x ∈ xs, Od N H p q x) : Od N H (p + 1) (xs.length * (q + 2) + 2) (.ref a) := by
  obtain ⟨ds, b1, b0, b2, b3, b4⟩ := Od.all h
  refine ⟨_, .lst (rs_of n e) b1, ?_, by simp only [fineD]; exact b2, by simp only [PyData.depth]; omega, by simp only [wtD]; omega⟩
  simp only [smD, Bool.and_eq_true]
  exact ⟨Nat.ble_eq_true_of_le (by rw [b1.len]; exact l), b0⟩
theorem Od.tup {a : Addr} {xs : List V} (n : N a) (e : H a = some (.tup xs)) (l : xs.length ≤ 1000) (h : ∀ x ∈ xs, Od N H p q x) : Od N H (p + 1) (xs.length * (q + 2) + 3) (.ref a) := by
  obtain ⟨ds, b1, b0, b2, b3, b4⟩ := Od.all h
  refine ⟨_, .tup (rs_of n e) b1, ?_, by simp only [fineD]; exact b2, by simp only [PyData.depth]; omega, by simp only [wtD]; omega⟩
  simp only [smD, Bool.and_eq_true]
  exact ⟨Nat.ble_eq_true_of_le (by rw [b1.len]; exact l), b0⟩
theorem smKv_of : ∀ {ks : List PyData} {ds : List PyData}, smAll ks = true → smAll ds = true → smKv (ks.zip ds) = true
  | [], _, _, _ => rfl
  | _ :: _, [], _, _ => rfl
  | k :: ks, d :: ds, h1, h2 => by
    simp only [smAll, Bool.and_eq_true] at h1 h2
    rw [List.zip_cons_cons]
    simp only [smKv, h1.1, h2.1, smKv_of h1.2 h2.2, Bool.and_self]
/-- a small key -/
def keyOk (k : Key) : Prop := match k with
  | .inl i => i.natAbs ≤ 1000000000
  | .inr x => okS x ∧ x.length ≤ 100
theorem Od.key {k : Key} (h : keyOk k) : Od N H 0 1921 (kV k) := by
  cases k with
  | inl i => exact Od.int h (Nat.le_refl _)
  | inr x => exact Od.str h.1 (by have := h.2; omega)
theorem Od.dK {a : Addr} {kvs : List (Key × V)} (n : N a) (e : H a = some (.dK kvs)) (l : kvs.length ≤ 1000) (hk : ∀ kv ∈ kvs, keyOk kv.1) (h : ∀ kv ∈ kvs, Od N H p q kv.2) : Od N H (p + 1) (kvs.length * (1921 + q + 4) + 2) (.ref a) := by
  obtain ⟨ds, b1, b0, b2, b3, b4⟩ := Od.all (N := N) (H := H) (p := p) (q := q) (xs := kvs.map fun kv => kv.2) fun x hx => by
    obtain ⟨kv, hm, rfl⟩ := List.mem_map.mp hx
    exact h kv hm
  obtain ⟨ks, c1, c0, c2, c3, c4⟩ := Od.all (N := N) (H := H) (p := 0) (q := 1921) (xs := kvs.map fun kv => kV kv.1) fun x hx => by
    obtain ⟨kv, hm, rfl⟩ := List.mem_map.mp hx
    exact Od.key (hk kv hm)
  have lb := b1.len
  have lc := c1.len
  rw [List.length_map] at lb lc b4 c4
  have ek : ks = kvs.map fun p => fD (kV p.1) := by
    clear b1 b0 b2 b3 b4 c0 c2 c3 c4 lb lc l hk h e
    induction kvs generalizing ks with
    | nil => cases c1; rfl
    | cons kv kvs ih =>
      cases c1 with
      | cons x y =>
        rw [List.map_cons, ← ih _ y]
        congr 1
        obtain ⟨k, v⟩ := kv
        cases k <;> (cases x; rfl)
  subst ek
  have kz : ∀ k ∈ kvs.map (fun p => fD (kV p.1)), k.depth ≤ p ∧ wtD k ≤ 1921 := fun k hm => by
    obtain ⟨kv, hm2, rfl⟩ := List.mem_map.mp hm
    obtain ⟨d, x, _, _, y, z⟩ := Od.key (N := N) (H := H) (hk kv hm2)
    obtain ⟨k, v⟩ := kv
    cases k <;> (cases x; exact ⟨Nat.le_trans y (Nat.zero_le _), z⟩)
  obtain ⟨z1, z2, z3⟩ := kv_zipD (p := p) (w := 1921) (ks := kvs.map fun kv => fD (kV kv.1)) (ds := ds) (by rw [List.length_map]; omega) c2 b2 kz
  rw [List.length_map] at z3
  refine ⟨_, .dK (rs_of n e) b1, ?_, by simp only [fineD]; exact z1, by simp only [PyData.depth]; omega, ?_⟩
  · simp only [smD, Bool.and_eq_true]
    exact ⟨Nat.ble_eq_true_of_le (by rw [List.length_zip, List.length_map]; omega), smKv_of c0 b0⟩
  · simp only [wtD]
    have m : kvs.length * (1921 + q + 4) = kvs.length * (1921 + 2) + kvs.length * (q + 2) := by rw [← Nat.mul_add]; congr 1; omega
    omega
/-- small data whose dicts have their keys apart -/
def Oq (N : Addr → Prop) (H : Hp) (p q : Nat) (v : V) : Prop := Od N H p q v ∧ ∀ a kvs, v = .ref a → H a = some (.dK kvs) → (kvs.map (·.1)).Nodup ∧ kvs.length ≤ 30
theorem Od.at {a : Addr} (h : Od N H p q (.ref a)) : ∃ o, rs N H a = some o := by
  obtain ⟨d, x, _⟩ := h
  cases x with
  | lst e _ => exact ⟨_, e⟩
  | tup e _ => exact ⟨_, e⟩
  | dK e _ => exact ⟨_, e⟩
theorem Oq.keep {v : V} (h : Oq N H p q v) (s : Same (rs N H) (rs N H')) : Oq N H' p q v := by
  refine ⟨h.1.keep s, fun a kvs e ea => ?_⟩
  subst e
  obtain ⟨o, eo⟩ := h.1.at
  have e1 := (rs_some (s _ _ eo)).2
  have e2 := (rs_some eo).2
  rw [ea] at e1
  cases e1
  exact h.2 a kvs rfl e2
theorem Oq.mono {v : V} {p' q' : Nat} (h : Oq N H p q v) (h1 : p ≤ p') (h2 : q ≤ q') : Oq N H p' q' v := ⟨h.1.mono h1 h2, h.2⟩
theorem Od.oq {v : V} (h : Od N H p q v) (n : ∀ a kvs, v = .ref a → H a ≠ some (.dK kvs)) : Oq N H p q v := ⟨h, fun a kvs e ea => absurd ea (n a kvs e)⟩
/-- dict(pairs) of small pairs -/
theorem oq_merge {a : Addr} {kr : List (Key × V)} (n : N a) (e : H a = some (.dK (mergeK [] kr))) (l : kr.length ≤ 20) (h : ∀ kv ∈ kr, keyOk kv.1 ∧ Od N H 2 2500 kv.2) : Oq N H 3 100000 (.ref a) := by
  obtain ⟨nd, lm⟩ := mergeK_nd' (kvs := []) (more := kr) List.nodup_nil
  rw [List.length_nil, Nat.zero_add] at lm
  have hall := all_mergeK (acc := []) (Pr := fun k v => keyOk k ∧ Od N H 2 2500 v) h (fun kv z => nomatch z)
  refine ⟨(Od.dK n e (by omega) (fun kv hm => (hall kv hm).1) (fun kv hm => (hall kv hm).2)).mono (by decide) ?_, fun b kvs eb ea => ?_⟩
  · have : (mergeK [] kr).length * (1921 + 2500 + 4) ≤ 20 * (1921 + 2500 + 4) := Nat.mul_le_mul_right _ (by omega)
    omega
  · cases eb
    rw [e] at ea
    cases ea
    exact ⟨nd, by omega⟩
end

/-! Kow: small things at allowed places; dicts with keys apart. -/
/-- small data; a dict has its keys apart -/
def Ow (N : Addr → Prop) (H : Hp) (p q : Nat) (v : V) : Prop := Od N H p q v ∧ ∀ a kvs, v = .ref a → H a = some (.dK kvs) → (kvs.map (·.1)).Nodup
theorem Ow.sub {N M : Addr → Prop} {H H' : Hp} {p q : Nat} {v : V} (h : Ow N H p q v) (s : Same (rs N H) (rs M H')) : Ow M H' p q v := by
  obtain ⟨⟨d, x, y⟩, h2⟩ := h
  refine ⟨⟨d, x.keep s, y⟩, fun a kvs e ea => ?_⟩
  subst e
  obtain ⟨o, eo⟩ := (Od.at (N := N) (H := H) ⟨d, x, y⟩ : ∃ o, rs N H a = some o)
  have e1 := (rs_some (s _ _ eo)).2
  have e2 := (rs_some eo).2
  rw [ea] at e1
  cases e1
  exact h2 a kvs rfl e2
theorem Od.sub {N M : Addr → Prop} {H H' : Hp} {p q : Nat} {v : V} (h : Od N H p q v) (s : Same (rs N H) (rs M H')) : Od M H' p q v := let ⟨d, x, y⟩ := h; ⟨d, x.keep s, y⟩
theorem Ow.mono {N : Addr → Prop} {H : Hp} {v : V} {p q p' q' : Nat} (h : Ow N H p q v) (h1 : p ≤ p') (h2 : q ≤ q') : Ow N H p' q' v := ⟨h.1.mono h1 h2, h.2⟩
theorem Od.ow {N : Addr → Prop} {H : Hp} {p q : Nat} {v : V} (h : Od N H p q v) (n : ∀ a kvs, v = .ref a → H a ≠ some (.dK kvs)) : Ow N H p q v := ⟨h, fun a kvs e ea => absurd ea (n a kvs e)⟩
/-- a dict of small pairs -/
theorem ow_kv {N : Addr → Prop} {H : Hp} {a : Addr} {kvs : List (Key × V)} (n : N a) (e : H a = some (.dK kvs)) (nd : (kvs.map (·.1)).Nodup) (l : kvs.length ≤ 50) (h : ∀ kv ∈ kvs, keyOk kv.1 ∧ Od N H 1 3000 kv.2) : Ow N H 2 300000 (.ref a) := by
  refine ⟨(Od.dK n e (by omega) (fun kv hm => (h kv hm).1) (fun kv hm => (h kv hm).2)).mono (by decide) ?_, fun b kvs' eb ea => ?_⟩
  · have : kvs.length * (1921 + 3000 + 4) ≤ 50 * (1921 + 3000 + 4) := Nat.mul_le_mul_right _ l
    omega
  · cases eb
    rw [e] at ea
    cases ea
    exact nd
theorem kp_more {S S' : List Addr} {H H' : Hp} (h : ∀ a ∈ S, a ∈ S') (k : Kp S H H') : Kp S' H H' := fun b o q => by
  obtain ⟨n, e⟩ := wo_some q
  exact wo_of n (kp_at k (fun z => n (h b z)) e)
theorem kp_frees {S : List Addr} {H G : Hp} {a : Addr} (k : Kp S H G) (n : G a = none) (ha : a ∉ S) : H a = none := by
  cases e : H a with
  | none => rfl
  | some o =>
    rw [kp_at k ha e] at n
    cases n
theorem sqT_unl {K : PySem.W.Frag} {H : Hp} {D : Addr} {od : Obj} {kvs : List (Key × V)} {v : HO} {a : Addr} {xs : List V} (hd : H D = some (.frz od (.dK kvs))) (h : SqT K H a xs) : SqT K (upd H D v) a xs := by
  rcases h with (h | ⟨o, h⟩) | h
  · exact .inl (.inl (by rw [upd_ne (fun z => by rw [z, hd] at h; cases h)]; exact h))
  · exact .inl (.inr ⟨o, by rw [upd_ne (fun z => by rw [z, hd] at h; cases h)]; exact h⟩)
  · exact .inr h
theorem paired_memX {α β : Type} {F : α → β → Prop} {xs : List α} {ys : List β} (h : Paired F xs ys) : ∀ {x : α}, x ∈ xs → ∃ y, y ∈ ys ∧ F x y := by
  induction h with
  | nil => intro x hx; exact nomatch hx
  | cons a _ ih =>
    intro x hx
    rcases List.mem_cons.mp hx with rfl | hx
    · exact ⟨_, List.mem_cons_self, a⟩
    · obtain ⟨y, h1, h2⟩ := ih hx
      exact ⟨y, List.mem_cons_of_mem _ h1, h2⟩
theorem sub_kp {N : Addr → Prop} {S : List Addr} {G G' : Hp} (k : Kp S G G') (h : ∀ a ∈ S, ¬ N a) : Same (rs N G) (rs N G') := fun b o e =>
  let ⟨n, e⟩ := rs_some e
  rs_of n (kp_at k (fun m => h b m n) e)
theorem w_setK {a : Addr} {kvs : List (Key × V)} {v : V} (k : Key) {H : Hp} {R : Hp → Prop} (h : H a = some (.dK kvs)) (hz : kvs.length ≤ 1000000) (q : R (upd H a (.dK (putK kvs k v)))) : rSetD (.ref a) (kV k) v H R :=
  ⟨a, _, rfl, .inl ⟨kvs, k, h, rfl, by have h2 : (sizeLine : Nat) = 16777216 := sizeLine_eq; omega, rfl⟩, q⟩
theorem rep0_ok : ∀ n : Nat, n ≤ 7 → okS (repS "0" n) ∧ (repS "0" n).length ≤ 7 := by
  intro n h
  have : n = 0 ∨ n = 1 ∨ n = 2 ∨ n = 3 ∨ n = 4 ∨ n = 5 ∨ n = 6 ∨ n = 7 := by omega
  rcases this with rfl | rfl | rfl | rfl | rfl | rfl | rfl | rfl <;> exact ⟨⟨by decide +kernel, by decide +kernel⟩, by decide +kernel⟩
theorem strR_ok {r : Int} (h2 : 0 ≤ r) (h4 : r ≤ 4) : okS (Str.ofString (toString r)) ∧ (Str.ofString (toString r)).length = 1 := by
  have : r = 0 ∨ r = 1 ∨ r = 2 ∨ r = 3 ∨ r = 4 := by omega
  rcases this with rfl | rfl | rfl | rfl | rfl <;> exact ⟨⟨by decide +kernel, by decide +kernel⟩, by decide +kernel⟩
theorem paired_apK {α β : Type} {F : α → β → Prop} {xs : List α} {ys : List β} {x : α} {y : β} (h : Paired F xs ys) (h1 : F x y) : Paired F (xs ++ [x]) (ys ++ [y]) := by
  induction h with
  | nil => exact .cons h1 .nil
  | cons a _ ih => exact .cons a ih

/-! Kpw: dicts of texts written into. -/
/-- a dict into which another one is written -/
theorem put_wdP {us : List (Str × Str)} {n s : Str} (nd : (us.map (·.1)).Nodup) : ∃ dv, putK (wd us) (keyS n) (.str s) = wd dv ∧ (dv.map (·.1)).Nodup ∧ dv.Perm ((us.filter fun p => decide (p.1 ≠ n)) ++ [(n, s)]) := by
  by_cases h : n ∈ us.map (·.1)
  · refine ⟨us.map fun q => if q.1 = n then (q.1, s) else q, ?_, ?_, ?_⟩
    · have e : ((wd us).any fun kv => decide (kv.1 = keyS n)) = true := by
        obtain ⟨q, hq, rfl⟩ := List.mem_map.mp h
        exact List.any_eq_true.mpr ⟨(keyS q.1, .str q.2), List.mem_map.mpr ⟨q, hq, rfl⟩, by simp⟩
      unfold putK
      rw [if_pos e]
      unfold wd
      rw [List.map_map, List.map_map]
      refine List.map_congr_left fun q _ => ?_
      show (if keyS q.1 = keyS n then (keyS q.1, V.str s) else (keyS q.1, V.str q.2)) = (keyS (if q.1 = n then (q.1, s) else q).1, V.str (if q.1 = n then (q.1, s) else q).2)
      by_cases z : q.1 = n
      · rw [if_pos (by rw [z]), if_pos z]
      · rw [if_neg (show ¬ keyS q.1 = keyS n from fun y => z (Sum.inr.inj y)), if_neg z]
    · have e : (us.map fun q => if q.1 = n then (q.1, s) else q).map (·.1) = us.map (·.1) := by
        rw [List.map_map]
        refine List.map_congr_left fun q _ => ?_
        show (if q.1 = n then (q.1, s) else q).1 = q.1
        split <;> rfl
      rw [e]
      exact nd
    · induction us with
      | nil => cases h
      | cons q us ih =>
        rw [List.map_cons, List.nodup_cons] at nd
        by_cases z : q.1 = n
        · have nin : n ∉ us.map (·.1) := z ▸ nd.1
          have e1 : us.map (fun q => if q.1 = n then (q.1, s) else q) = us := by
            conv => rhs; rw [← List.map_id us]
            refine List.map_congr_left fun p hp => ?_
            rw [if_neg (fun y => nin (List.mem_map.mpr ⟨p, hp, y⟩))]
            rfl
          have e2 : us.filter (fun p => decide (p.1 ≠ n)) = us := List.filter_eq_self.mpr fun p hp => decide_eq_true fun y => nin (List.mem_map.mpr ⟨p, hp, y⟩)
          rw [List.map_cons, if_pos z, e1, List.filter_cons, if_neg (by simp [z]), e2, z]
          exact (List.perm_append_singleton _ _).symm
        · have hm : n ∈ us.map (·.1) := by
            rcases List.mem_cons.mp h with y | y
            · exact absurd y.symm z
            · exact y
          rw [List.map_cons, if_neg z, List.filter_cons, if_pos (by simp [z]), List.cons_append]
          exact (ih nd.2 hm).cons _
  · have e2 : us.filter (fun p => decide (p.1 ≠ n)) = us := List.filter_eq_self.mpr fun p hp => decide_eq_true fun y => h (List.mem_map.mpr ⟨p, hp, y⟩)
    refine ⟨us ++ [(n, s)], ?_, ?_, ?_⟩
    · rw [putK_append (by rw [wd_keys]; exact fun z => h (mem_keyS.mp z))]
      unfold wd
      rw [List.map_append]
      rfl
    · rw [List.map_append, List.nodup_append]
      refine ⟨nd, by simp, fun a ha b hb => ?_⟩
      have : b = n := by simpa using hb
      rw [this]
      exact fun z => h (z ▸ ha)
    · rw [e2]
theorem merge_wdP : ∀ {vs us : List (Str × Str)}, (us.map (·.1)).Nodup → (vs.map (·.1)).Nodup → ∃ dv, mergeK (wd us) (wd vs) = wd dv ∧ (dv.map (·.1)).Nodup ∧ dv.Perm ((us.filter fun p => !decide (p.1 ∈ vs.map (·.1))) ++ vs)
  | [], us, n1, _ => ⟨us, rfl, n1, by
    have e : us.filter (fun p => !decide (p.1 ∈ ([] : List (Str × Str)).map (·.1))) = us := List.filter_eq_self.mpr fun p _ => by simp
    rw [e, List.append_nil]⟩
  | (n, s) :: vs, us, n1, n2 => by
    rw [List.map_cons, List.nodup_cons] at n2
    obtain ⟨u2, e1, nd1, p1⟩ := put_wdP (n := n) (s := s) n1
    obtain ⟨dv, e2, nd2, p2⟩ := merge_wdP (vs := vs) nd1 n2.2
    refine ⟨dv, ?_, nd2, p2.trans ?_⟩
    · rw [← e2, ← e1]
      rfl
    · have p3 := p1.filter fun p => !decide (p.1 ∈ vs.map (·.1))
      rw [List.filter_append, List.filter_filter] at p3
      have e3 : [(n, s)].filter (fun p => !decide (p.1 ∈ vs.map (·.1))) = [(n, s)] := by
        rw [List.filter_cons, if_pos (by simpa using n2.1)]
        rfl
      rw [e3] at p3
      refine (p3.append_right vs).trans ?_
      rw [List.append_assoc]
      have e4 : us.filter (fun a => !decide (a.1 ∈ vs.map (·.1)) && decide (a.1 ≠ n)) = us.filter fun p => !decide (p.1 ∈ ((n, s) :: vs).map (·.1)) := by
        refine List.filter_congr fun p _ => ?_
        rw [List.map_cons]
        by_cases h1 : p.1 = n <;> by_cases h2 : p.1 ∈ vs.map (·.1) <;> simp [h1, h2]
      rw [e4]
      exact List.Perm.refl _

/-! Knf: filtered lists of (name, text) pairs. -/
theorem paired_appK {α β : Type} {F : α → β → Prop} {xs : List α} {ys : List β} {x : α} {y : β} (h : Paired F xs ys) (h1 : F x y) : Paired F (xs ++ [x]) (ys ++ [y]) := by
  induction h with
  | nil => exact .cons h1 .nil
  | cons a _ ih => exact .cons a ih
section
variable {g : TG} {tt : TT} {te : TE} {vs : List Nat} {σ : L2.St} {H1 : Hp} {D : Addr} {Qd : Hp → Prop} {J : It} {G : Hp → Prop} {K : PySem.W.Frag}
/-- [(n, f n) for n in names if ok n] laid into a dict -/
theorem lc_namedF {nn : List Str} (w : Walk J (nn.map V.str).length G (YAt (nn.map V.str))) (f : Str → Str) (ok : Str → Bool) (hn : nn.length ≤ 1000000) (hD : H1 D = none) (hG : ∀ H, Same H1 H → G H)
    (hs : ∀ (n : Str) (H' : Hp) (Ky : V → Hp → Prop) (Kn : Hp → Prop), n ∈ nn → Same H1 H' → (ok n = true → ∀ H4, Same H' H4 → New (.tup [.str n, .str (f n)]) H4 Ky) → (ok n = false → ∀ H3, Same H' H3 → Kn H3) →
      g (.str n) (wipe σ vs) H' fun σ2 H2 => wipe σ2 vs = wipe σ vs ∧ tt σ2 H2 fun b H3 => if b = true then te σ2 H3 Ky else Kn H3)
    (hd : ∀ H' (ps : List Addr), Same H1 H' → H' D = some (.lst (ps.map V.ref)) → Paired (fun p (kv : Key × V) => SqT K H' p [kV kv.1, kv.2]) ps (wd ((nn.filter ok).map fun n => (n, f n))) → Qd H') :
    ∃ W : Nat → Nat → Hp → Prop, (∃ m, W 0 m (upd H1 D (.lst []))) ∧ ∀ i m H, W i m H →
      (J.stop i H ∧ Qd H) ∨ (J.go i H ∧ ∃ Nx : Hp → Prop, (∀ H', Nx H' → ∃ m', m' < m ∧ W (i + 1) m' H') ∧ ∀ x H', J.yld i H x H' → g x (wipe σ vs) H' fun σ2 H2 => wipe σ2 vs = wipe σ vs ∧ tt σ2 H2 fun b H3 =>
        if b = true then te σ2 H3 fun y H4 => ∃ acc, H4 D = some (.lst acc) ∧ acc.length < sizeLine ∧ Nx (upd H4 D (.lst (acc ++ [y]))) else Nx H3) := by
  refine lc_st w (fun i acc H => Same H1 H ∧ ∃ ps : List Addr, acc = ps.map V.ref ∧ Paired (fun p (q : Str × Str) => p ≠ D ∧ H p = some (.tup [.str q.1, .str q.2])) ps (((nn.take i).filter ok).map fun n => (n, f n))) (by rw [List.length_map]; exact hn) ?_ ⟨same_upd hD, [], rfl, .nil⟩ (fun _ _ H h => hG H h.1) ?_ ?_
  · rintro i acc H H' kd ⟨s1, ps, rfl, pr⟩
    exact ⟨same_kp1 s1 hD kd, ps, rfl, L2.Paired.mapP pr fun p q z => ⟨z.1, kp_at kd (by simpa using z.1) z.2⟩⟩
  · rintro i x acc H H' Ky Kn hi _ ⟨s1, ps, rfl, pr⟩ eD ⟨rfl, hx⟩ ky kn
    rw [List.length_map] at hi
    have en : nn[i]? = some nn[i] := List.getElem?_eq_getElem hi
    rw [List.getElem?_map, en] at hx
    cases hx
    have et : nn.take (i + 1) = nn.take i ++ [nn[i]] := take_more' en
    refine hs nn[i] H' Ky Kn (List.getElem_mem hi) s1 (fun e H4 s4 p H5 hp s5 h5 => ?_) (fun e H3 s3 => ?_)
    · have ne : p ≠ D := fun z => by rw [z, s4 _ _ eD] at hp; cases hp
      refine ky (.ref p) H5 (s5 _ _ (s4 _ _ eD)) ⟨s1.trans (s4.trans s5), ps ++ [p], by simp, ?_⟩
      rw [et, List.filter_append, List.map_append]
      have e1 : [nn[i]].filter ok = [nn[i]] := by simp [e]
      rw [e1]
      exact paired_appK (L2.Paired.mapP pr fun p q z => ⟨z.1, (s4.trans s5) _ _ z.2⟩) ⟨ne, h5⟩
    · refine kn H3 (s3 _ _ eD) ⟨s1.trans s3, ps, rfl, ?_⟩
      rw [et, List.filter_append]
      have e1 : [nn[i]].filter ok = [] := by simp [e]
      rw [e1, List.append_nil]
      exact L2.Paired.mapP pr fun p q z => ⟨z.1, s3 _ _ z.2⟩
  · rintro acc H hl0 e ⟨s1, ps, rfl, pr⟩
    rw [List.length_map, List.take_length] at pr
    refine hd H ps s1 e ?_
    clear e hl0
    generalize ((nn.filter ok).map fun n => (n, f n)) = us at pr
    induction pr with
    | nil => exact .nil
    | cons a _ ih => exact .cons (.of a.2) ih
end

set_option maxHeartbeats 40000000
set_option pp.maxSteps 2500
def sp_law (K : PySem.W.Frag) : Sp := fun vs H Q _ => ∃ (a : Addr) (ns : List Int), vs = [.ref a] ∧ SqL K H a (ns.map V.int) ∧ ns.length ≤ 63 ∧ ∀ H', Q (.bl true) H'
def AnyB (c : Adr) (G : Hp) (y : V) : Prop := ∃ b r h ws bl, y = .ref b ∧ BookAt c G b r h ws bl
theorem AnyB.kps {c : Adr} {S : List Addr} {H H' : Hp} {y : V} (b : AnyB c H y) (n : ∀ a ∈ S, okind (H a) ≤ 1) (k : Kp S H H') : AnyB c H' y :=
  let ⟨x, r, h, ws, bl, e, bk⟩ := b
  ⟨x, r, h, ws, bl, e, bk.kps n k⟩
theorem take_out {ws : List (Str × Str)} (nd : (ws.map (·.1)).Nodup) {q : Str × Str} (hq : q ∈ ws) : ws.Perm (ws.filter (fun p => decide (p.1 ≠ q.1)) ++ [q]) := by
  have n1 : ws.Nodup := nodup_map_of nd
  refine (List.perm_ext_iff_of_nodup n1 ?_).mpr fun x => ?_
  · rw [List.nodup_append]
    refine ⟨n1.filter _, by simp, fun a ha b hb e => ?_⟩
    rw [List.mem_singleton] at hb
    have := (List.mem_filter.mp ha).2
    rw [decide_eq_true_iff, e, hb] at this
    exact this rfl
  · rw [List.mem_append, List.mem_filter, List.mem_singleton, decide_eq_true_iff]
    constructor
    · intro hx
      by_cases e : x.1 = q.1
      · have := look_mem nd hx
        have h2 := look_mem nd hq
        rw [e] at this
        exact .inr (Prod.ext e (this.symm.trans h2))
      · exact .inl ⟨hx, e⟩
    · rintro (⟨h, _⟩ | rfl)
      · exact h
      · exact hq
theorem PartsA.of {r h r' h' : Int} {ws ws' : List (Str × Str)} {ss ss' : List Str} (p : PartsA r h ws ss) (rh : 2 ≤ r' ∧ r' ≤ 4 ∧ 1 ≤ h' ∧ h' ≤ 6) (hr : r ≤ r') (hh : h ≤ h') (nd : (ws'.map (·.1)).Nodup) (nm : ∀ n ∈ ws'.map (·.1), isNameS n = true)
    (su : ∃ l : List Str, l.Perm (ws'.map (·.2) ++ ss') ∧ l.Sublist (ws.map (·.2) ++ ss)) (lw : ws'.length ≤ 12) (ls : ss'.length ≤ 3) : PartsA r' h' ws' ss' := by
  obtain ⟨l, hl, sl⟩ := su
  refine ⟨rh, nd, nm, fun x hx => ?_, ?_, lw, ls⟩
  · have := code_iff.mp (p.cd x (sl.subset (hl.mem_iff.mpr hx)))
    refine code_iff.mpr ⟨this.1, by omega, fun d hd => ?_⟩
    have := this.2.2 d hd
    unfold isDig at *
    simp only [Bool.and_eq_true, decide_eq_true_eq] at *
    omega
  · exact (hl.pairwise_iff (fun {a b} h => by rw [clash_symm]; exact h)).mp (p.pw.sublist sl)
/-- two codebooks compared -/
theorem cmp_books {K : PySem.W.Frag} {c : Adr} {mg : Str → Option Value} {E : XK} {g : Bool → Bool} {b b2 : Addr} {r h r2 h2 : Int} {ws ws2 : List (Str × Str)} {bl bl2 : List Str} {H : Hp} {Q : VK} (ck : ClsF K mg "Codebook" c.Codebook) (hb : BookAt c H b r h ws bl) (hb2 : BookAt c H b2 r2 h2 ws2 bl2)
    (q : ∀ H', Same H H' → Q (.bl (g (decide (r = r2) && decide (h = h2) && eqKV (wd ws) (wd ws2) && decide (bl = bl2)))) H') : rCmpO K c.Codebook (sp_bookeq c) E g (.ref b) (.ref b2) H Q := by
  obtain ⟨⟨dx, Dn, Tn, d1, d2, d3⟩, bb⟩ := id hb
  obtain ⟨⟨dy, Dm', Tm', g1, g2, g3⟩, bb2⟩ := id hb2
  exact ⟨b, dx, _, .ref c.Codebook, rfl, d1, ck.tyX g1, first_self, b, r, h, ws, bl, .ref b2, rfl, hb, .inl ⟨b2, r2, h2, ws2, bl2, rfl, hb2, fun H' s => ⟨_, rfl, q _ s⟩⟩⟩
/-- a codebook compared with another object -/
theorem cmp_thing {K : PySem.W.Frag} {c : Adr} {mg : Str → Option Value} {E : XK} {g : Bool → Bool} {b : Addr} {v : V} {r h : Int} {ws : List (Str × Str)} {bl : List Str} {H : Hp} {Q : VK} (ck : ClsF K mg "Codebook" c.Codebook) (hb : BookAt c H b r h ws bl) (hv : AnyV H v)
    (q : ∀ H', Same H H' → Q (.bl (g false)) H') : rCmpO K c.Codebook (sp_bookeq c) E g (.ref b) v H Q := by
  obtain ⟨⟨dx, Dn, Tn, d1, d2, d3⟩, bb⟩ := id hb
  obtain ⟨t, ty, _, nf⟩ := ck.any hv
  exact ⟨b, dx, _, t, rfl, d1, ty, nf, b, r, h, ws, bl, v, rfl, hb, .inr ⟨hv, fun H' s => ⟨_, rfl, q _ s⟩⟩⟩
theorem same_true {r h : Int} {ws ws2 : List (Str × Str)} {ss ss2 : List Str} (n1 : (ws.map (·.1)).Nodup) (pw : ws2.Perm ws) (ps : ss2.Perm ss) : (decide (r = r) && decide (h = h) && eqKV (wd (srtW ws)) (wd (srtW ws2)) && decide (srt ss = srt ss2)) = true := by
  have n2 : (ws2.map (·.1)).Nodup := ((pw.map (·.1)).nodup_iff).mpr n1
  rw [(srtW_eq n1 n2).mpr pw.symm, srt_eq.mpr ps.symm, decide_eq_true rfl, decide_eq_true rfl, decide_eq_true rfl, (eqKV_iff (srtW_nodup n2) (srtW_nodup n2)).mpr (List.Perm.refl _)]
  rfl
/-- a growing list of codebooks, new since HI -/
def Bks (c : Adr) (HI : Hp) (X : Addr) (n : Nat) (G : Hp) : Prop := Same HI G ∧ ∃ ys, G X = some (.lst ys) ∧ ys.length ≤ n ∧ ∀ y ∈ ys, AnyB c G y
theorem Bks.keep {c : Adr} {HI : Hp} {X : Addr} {n : Nat} {G G' : Hp} (s : Same G G') (b : Bks c HI X n G) : Bks c HI X n G' :=
  let ⟨s0, ys, e, l, h⟩ := b
  ⟨s0.trans s, ys, s _ _ e, l, fun y hy => (h y hy).kps (S := []) (by simp) (same_wo s [])⟩
theorem Bks.mono {c : Adr} {HI : Hp} {X : Addr} {n m : Nat} {G : Hp} (h : n ≤ m) (b : Bks c HI X n G) : Bks c HI X m G :=
  let ⟨s0, ys, e, l, h1⟩ := b
  ⟨s0, ys, e, by omega, h1⟩
theorem Bks.ty {c : Adr} {K : PySem.W.Frag} {HI : Hp} {X : Addr} {n : Nat} {G : Hp} (b : Bks c HI X n G) : tyV K "list" (.ref X) G :=
  let ⟨_, _, e, _, _⟩ := b
  w_tyL (.of e)
theorem Bks.app {c : Adr} {HI : Hp} {X : Addr} {n : Nat} {G : Hp} {v : V} {Q : VK} (b : Bks c HI X n G) (nX : HI X = none) (hn : n ≤ 1000) (hv : AnyB c G v) (k : ∀ G', Kp [X] G G' → Bks c HI X (n + 1) G' → Q .non G') : rAppend (.ref X) [v] G Q := by
  obtain ⟨s0, ys, e, l, h⟩ := b
  have h2 : (sizeLine : Nat) = 16777216 := sizeLine_eq
  refine w_app e (by omega) (k _ (kp_upd (by simp)) ⟨same_put s0 nX, _, upd_same, by rw [List.length_append]; simp; omega, fun y hy => ?_⟩)
  have hy2 : AnyB c G y := by
    rcases List.mem_append.mp hy with hy | hy
    · exact h y hy
    · rw [List.mem_singleton.mp hy]
      exact hv
  exact hy2.kps (S := [X]) (fun a ha => by rw [List.mem_singleton.mp ha, e]; exact Nat.le_refl 1) (kp_upd (by simp))
/-- two codewords exchanged -/
theorem swap_wd {ws : List (Str × Str)} {n0 n1 : Str} (nd : (ws.map (·.1)).Nodup) (h0 : n0 ∈ ws.map (·.1)) (h1 : n1 ∈ ws.map (·.1)) (ne : n0 ≠ n1) : (putK (wd ws) (keyS n0) (.str (look ws n1))).length ≤ ws.length + 1 ∧ ∃ us : List (Str × Str), putK (putK (wd ws) (keyS n0) (.str (look ws n1))) (keyS n1) (.str (look ws n0)) = wd us ∧ (us.map (·.1)).Nodup ∧ (us.map (·.1)).Perm (ws.map (·.1)) ∧ (us.map (·.2)).Perm (ws.map (·.2)) := by
  obtain ⟨u1, e1, d1, p1⟩ := put_wdP (s := look ws n1) (n := n0) nd
  rw [e1]
  obtain ⟨u2, e2, d2, p2⟩ := put_wdP (s := look ws n0) (n := n1) d1
  have t0 := take_out nd (look_in nd h0)
  have nd1 : ((ws.filter fun p => decide (p.1 ≠ n0)).map (·.1)).Nodup := nd.sublist (List.filter_sublist.map _)
  have in1 : (n1, look ws n1) ∈ ws.filter fun p => decide (p.1 ≠ n0) := List.mem_filter.mpr ⟨look_in nd h1, decide_eq_true (Ne.symm ne)⟩
  have t1 := take_out nd1 in1
  have f1 := p1.filter fun p => decide (p.1 ≠ n1)
  rw [List.filter_append, List.filter_cons, if_pos (by simpa using ne), List.filter_nil] at f1
  have q2 := p2.trans (f1.append_right _)
  have qw := t0.trans (t1.append_right _)
  generalize ((ws.filter fun p => decide (p.1 ≠ n0)).filter fun p => decide (p.1 ≠ n1)) = rest at q2 qw
  refine ⟨?_, u2, e2, d2, ?_, ?_⟩
  · have l1 := p1.length_eq
    rw [List.length_append] at l1
    have := List.length_filter_le (fun p : Str × Str => decide (p.1 ≠ n0)) ws
    unfold wd
    rw [List.length_map, l1]
    simp only [List.length_cons, List.length_nil]
    omega
  · refine (q2.map (·.1)).trans (.trans ?_ (qw.map (·.1)).symm)
    simp only [List.map_append, List.map_cons, List.map_nil, List.append_assoc, List.cons_append, List.nil_append]
    exact (List.Perm.refl _).append (List.Perm.swap _ _ _)
  · refine (q2.map (·.2)).trans (.trans ?_ (qw.map (·.2)).symm)
    simp only [List.map_append, List.map_cons, List.map_nil, List.append_assoc, List.cons_append, List.nil_append]
    exact List.Perm.refl _
/-- the first and the last of a list of distinct things -/
theorem first_last {ns : List Str} (nd : ns.Nodup) (h : 1 < ns.length) : ∃ n0 n1, n0 ∈ ns ∧ n1 ∈ ns ∧ n0 ≠ n1 ∧ atI (ns.map V.str) 0 = some (.str n0) ∧ atI (ns.map V.str) (-1) = some (.str n1) := by
  refine ⟨ns[0], ns[ns.length - 1], List.getElem_mem _, List.getElem_mem _, fun e => ?_, ?_, ?_⟩
  · have := List.pairwise_iff_getElem.mp nd 0 (ns.length - 1) (by omega) (by omega) (by omega)
    exact this e
  · unfold atI ixN
    rw [if_pos (by decide), List.length_map, if_pos (by omega)]
    show (ns.map V.str)[(0 : Int).toNat]? = _
    rw [List.getElem?_map]
    simp
  · unfold atI ixN
    rw [List.length_map, if_neg (by decide), if_pos (by omega)]
    show (ns.map V.str)[(-1 + (ns.length : Int)).toNat]? = _
    rw [show (-1 + (ns.length : Int)).toNat = ns.length - 1 by omega, List.getElem?_map]
    simp
theorem keys_wd {ws : List (Str × Str)} : (wd ws).map (fun kv => kV kv.1) = (ws.map (·.1)).map V.str := by
  unfold wd
  rw [List.map_map, List.map_map]
  rfl
theorem filt_look {ws : List (Str × Str)} {n : Str} (nd : (ws.map (·.1)).Nodup) : ((ws.map (·.1)).filter fun x => decide (x ≠ n)).map (fun x => (x, look ws x)) = ws.filter fun p => decide (p.1 ≠ n) := by
  rw [List.filter_map, List.map_map]
  conv => rhs; rw [← List.map_id (ws.filter fun p => decide (p.1 ≠ n))]
  refine List.map_congr_left fun p hp => ?_
  exact Prod.ext rfl (look_mem nd (List.mem_filter.mp hp).1)
def movW (ws : List (Str × Str)) (n : Str) : List (Str × Str) := ws.map fun q => (if q.1 = n then "n" else q.1, q.2)
theorem mov_wd {ws : List (Str × Str)} {n : Str} (nd : (ws.map (·.1)).Nodup) : (((wd ws).map fun kv => kV kv.1).map fun v => (keyS (if strOf v = n then "n" else strOf v), V.str (look ws (strOf v)))) = wd (movW ws n) := by
  unfold wd movW
  rw [List.map_map, List.map_map, List.map_map]
  refine List.map_congr_left fun q hq => ?_
  show (keyS (if q.1 = n then "n" else q.1), V.str (look ws q.1)) = (keyS (if q.1 = n then "n" else q.1), V.str q.2)
  rw [look_mem nd hq]
theorem mov_nd {ws : List (Str × Str)} {n : Str} (nd : (ws.map (·.1)).Nodup) (hn : ("n" : Str) ∉ ws.map (·.1)) : ((movW ws n).map (·.1)).Nodup := by
  unfold movW
  rw [List.map_map]
  have e : ws.map ((fun x : Str × Str => x.1) ∘ fun q => (if q.1 = n then "n" else q.1, q.2)) = (ws.map (·.1)).map fun x => if x = n then ("n" : Str) else x := by
    rw [List.map_map]
    rfl
  rw [e]
  unfold List.Nodup at nd ⊢
  rw [List.pairwise_map]
  refine (List.pairwise_iff_forall_sublist.mpr fun {a b} sl => ?_)
  have hab := List.pairwise_iff_forall_sublist.mp nd sl
  have ma := sl.subset (List.mem_cons_self)
  have mb := sl.subset (List.mem_cons_of_mem _ List.mem_cons_self)
  have na : a ≠ "n" := fun z => hn (z ▸ ma)
  have nb : b ≠ "n" := fun z => hn (z ▸ mb)
  by_cases ea : a = n
  · rw [if_pos ea, if_neg (fun z => hab (ea.trans z.symm))]
    exact nb.symm
  · rw [if_neg ea]
    by_cases eb : b = n
    · rw [if_pos eb]
      exact na
    · rw [if_neg eb]
      exact hab
theorem mov_names {ws : List (Str × Str)} {n : Str} (h : ∀ x ∈ ws.map (·.1), isNameS x = true) : ∀ x ∈ (movW ws n).map (·.1), isNameS x = true := by
  intro x hx
  obtain ⟨q, hq, rfl⟩ := List.mem_map.mp hx
  obtain ⟨q0, h0, rfl⟩ := List.mem_map.mp hq
  show isNameS (if q0.1 = n then "n" else q0.1) = true
  split
  · decide +kernel
  · exact h _ (List.mem_map.mpr ⟨q0, h0, rfl⟩)
theorem mov_snd {ws : List (Str × Str)} {n : Str} : (movW ws n).map (·.2) = ws.map (·.2) := by
  unfold movW
  rw [List.map_map]
  rfl
/-- t + u, u not empty -/
theorem w_catA {K : PySem.W.Frag} {a b : Addr} {xs ys : List V} {H : Hp} {Q : VK} (ha : H a = some (.tup xs)) (hb : H b = some (.tup ys)) (hz : xs.length + ys.length ≤ sizeLine) (hy : ys ≠ []) (k : ∀ t H', Same H H' → H' t = some (.tup (xs ++ ys)) → Q (.ref t) H') : rCatA K (.ref a) (.ref b) H Q := by
  refine ⟨a, b, xs, ys, rfl, rfl, .of ha, .of hb, hz, fun e => ?_, fun _ e => absurd e hy, fun _ _ p hp => k p _ (same_upd hp) upd_same⟩
  exact k b H (Same.refl _) (by rw [e]; exact hb)
theorem eqKV_srt {ws vs : List (Str × Str)} (n1 : (ws.map (·.1)).Nodup) (n2 : (vs.map (·.1)).Nodup) : eqKV (wd (srtW ws)) (wd vs) = eqKV (wd vs) (wd ws) ∧ eqKV (wd vs) (wd (srtW ws)) = eqKV (wd vs) (wd ws) := by
  have ns := srtW_nodup n1
  have p := srtW_perm n1
  constructor
  · rw [Bool.eq_iff_iff, eqKV_iff ns n2, eqKV_iff n2 n1]
    exact ⟨fun q => q.symm.trans p, fun q => p.trans q.symm⟩
  · rw [Bool.eq_iff_iff, eqKV_iff n2 ns, eqKV_iff n2 n1]
    exact ⟨fun q => q.trans p, fun q => q.trans p.symm⟩
/-- a dict of texts as data -/
theorem wd_data {H : Hp} {a : Addr} {ws : List (Str × Str)} (e : H a = some (.dK (wd ws))) (ok : ∀ q ∈ ws, okS q.1 ∧ okS q.2 ∧ q.1.length ≤ 8 ∧ q.2.length ≤ 6) (l : ws.length ≤ 40) : ∃ d, RepAs H (.ref a) d ∧ okS d.shown := by
  obtain ⟨d, h1, h2, h3, h4⟩ := (Rb.dK (H := H) (a := a) (p := 1) (w := 100) e (fun kv hm => by
    obtain ⟨q, hq, rfl⟩ := List.mem_map.mp hm
    have n := ok q hq
    exact Rb.str n.1.2 (by omega)) (fun kv hm => by
    obtain ⟨q, hq, rfl⟩ := List.mem_map.mp hm
    have n := ok q hq
    exact Rb.str n.2.1.2 (by omega)))
  have lw : (wd ws).length = ws.length := by unfold wd; rw [List.length_map]
  rw [lw] at h4
  exact ⟨d, ⟨h1, h2, by omega, by omega⟩, by have := shown_wt d h2; omega, shown_ok d h2⟩
section
variable {P : Program} {w : World} {K : PySem.W.Frag} {mg : Str → Option Value} {base : Heap}
theorem sc_law : FnScope ["script", "pen", "turn", "radix", "depth", "words", "reserved", "book", "name", "turned", "changed_books", "names", "swapped", "fewer", "moved", "other", "parts", "expected", "thing", "one"] ["script"] (defScope s_law) := ⟨rfl, rfl, rfl, by decide +kernel, rfl, by decide +kernel, by decide +kernel⟩
theorem ok_law {c : Adr} (T : Txt K mg c) (F : At K mg "law" "law" s_law) (D__law_pen : DefOk P w K mg base 1 "_law_pen" ["script"] (sp_pen K)) (D__law_parts : DefOk P w K mg base 4 "_law_parts" ["pen", "most"] sp_parts) (D_Codebook___init__ : InitOk P w K mg base 4 "Codebook" c.Codebook "Codebook.__init__" s_Codebook___init__ ["self", "radix", "depth", "words", "reserved"] (sp_init K c) [.ref c.d0_Codebook]) (D_Codebook_words : MethOk P w K mg base 1 c.Codebook "words" ["self"] (sp_words c)) (D_Codebook_reserved : MethOk P w K mg base 1 c.Codebook "reserved" ["self"] (sp_reserved c)) (D__law_any : DefOk P w K mg base 6 "_law_any" ["pen", "levels"] (sp_any 3)) (D_Codebook___eq__ : MethOk P w K mg base 1 c.Codebook "__eq__" ["self", "other"] (sp_bookeq c)) : DefG P w K mg base 9 "law" ["script"] (sp_law K) := by
  refine DefG.of F sc_law (fun _ _ _ _ _ _ us hl => match us, hl with | [_], _ => rfl) (fun vs H Q E h => ?_) (fun f cdv A outer s H vs Q E hr hgd h => ?_)
  · obtain ⟨a, ns, rfl, _⟩ := h
    rfl
  · obtain ⟨a, ns, rfl, ha, hl, k⟩ := h
    refine ⟨_, (pss_cons (ps_set (i := 1) sc_law.nd rfl (Or.inl rfl) (pe_callD D__law_pen (hr.mono (by decide)) passL (pa_cons (pv 0) pa_nil)))
    (pss_cons (ps_for (passes_of rfl) rfl (pi_range1 (by rfl) T.b_range (pa_cons pe_int pa_nil)) (pg_name (i := 2) sc_law.nd rfl (Or.inl rfl))
      (pss_cons (ps_asg (pe_callD D__law_parts (hr.mono (by decide)) passL (pa_cons (pv 1) (pa_cons pe_int pa_nil))) (pg_tupK (K := K) (n := 4) rfl (pgs_cons (pg_name (i := 3) sc_law.nd rfl (Or.inl rfl)) (pgs_cons (pg_name (i := 4) sc_law.nd rfl (Or.inl rfl)) (pgs_cons (pg_name (i := 5) sc_law.nd rfl (Or.inr rfl)) (pgs_cons (pg_name (i := 6) sc_law.nd rfl (Or.inl rfl)) pgs_nil))))))
      (pss_cons (ps_set (i := 7) sc_law.nd rfl (Or.inl rfl) (pe_makeD (mk_Codebook4 rfl D_Codebook___init__) (hr.mono (by decide)) passL (pa_cons (pv 3) (pa_cons (pv 4) (pa_cons (pv 5) (pa_cons (pv 6) pa_nil))))))
      (pss_cons (ps_set (i := 9) sc_law.nd rfl (Or.inl rfl) (pe_callTy (cr_dictP (K := K) rfl) (by rfl) T.b_dict (by decide +kernel) (pa_cons (pe_lc (own := [("name", 8)]) (g := gName 8) (tt := tYes) (by rfl) sc_law.nd (piL (K := K) (pe_revK (K := K) (pe_callB (cr_sortedDk rfl) (by rfl) T.b_sorted (by decide +kernel) (pa_cons (pv 5) pa_nil)))) (blkOk_by (N := ["script", "pen", "turn", "radix", "depth", "words", "reserved", "book", "name", "turned", "changed_books", "names", "swapped", "fewer", "moved", "other", "parts", "expected", "thing", "one"]) (sc := defScope s_law) (by decide +kernel))
    (fun _ _ _ _ _ => (pg_name (i := 8) sc_law.nd rfl (Or.inl rfl))) (fun _ _ _ _ _ => pts_nil) (fun _ _ _ _ _ => (pe_tupN (pa_cons (pv 8) (pa_cons (pe_dget hr.units1 (pv 5) (pv 8) (fun _ _ => rfl)) pa_nil))))) pa_nil)))
      (pss_cons (ps_if (pt_cmpR op_isnot_bl (pe_cmpR (op_eqO D_Codebook___eq__ (hr.mono (by decide)) passL) (pv 7) (pe_makeD (mk_Codebook4 rfl D_Codebook___init__) (hr.mono (by decide)) passL (pa_cons (pv 3) (pa_cons (pv 4) (pa_cons (pv 9) (pa_cons (pe_revT (K := K) (pv 6)) pa_nil))))) (nomark _)) pe_bl (nomark _)) (pss_one (ps_ret pe_bl))
        pss_nil)
      (pss_cons (ps_if (pt_cmpR (op_neO T.k_Codebook D_Codebook___eq__ (hr.mono (by decide)) passL) (pv 7) (pe_makeD (mk_Codebook4 rfl D_Codebook___init__) (hr.mono (by decide)) passL (pa_cons (pv 3) (pa_cons (pv 4) (pa_cons (pv 5) (pa_cons (pe_callTy (cr_listOf (K := K)) (by rfl) T.b_list (by decide +kernel) (pa_cons (pv 6) pa_nil)) pa_nil))))) (nomark _)) (pss_one (ps_ret pe_bl))
        pss_nil)
      (pss_cons (ps_set (i := 10) sc_law.nd rfl (Or.inl rfl) (pe_lstN (pa_cons (pe_makeD (mk_Codebook4 rfl D_Codebook___init__) (hr.mono (by decide)) passL (pa_cons (pv 3) (pa_cons (pe_op op_add (pv 4) pe_int) (pa_cons (pv 5) (pa_cons (pv 6) pa_nil))))) (pa_cons (pe_makeD (mk_Codebook4 rfl D_Codebook___init__) (hr.mono (by decide)) passL (pa_cons (pv 3) (pa_cons (pv 4) (pa_cons pe_dnewK (pa_cons (pv 6) pa_nil))))) pa_nil))))
      (pss_cons (ps_expr (pe_bmK (K := K) PySem.F.plainAttrs_list PySem.F.slot_list_append PySem.F.type_list_append mt_append (pv 10) (pa_cons (pe_makeD (mk_Codebook3 rfl D_Codebook___init__) (hr.mono (by decide)) passL (pa_cons (pv 3) (pa_cons (pv 4) (pa_cons (pv 5) pa_nil)))) pa_nil)))
      (pss_cut (ps_if (pt_cmpR op_lt (pv 3) pe_int (nomark _)) (pss_one (ps_expr (pe_bmK (K := K) PySem.F.plainAttrs_list PySem.F.slot_list_append PySem.F.type_list_append mt_append (pv 10) (pa_cons (pe_makeD (mk_Codebook4 rfl D_Codebook___init__) (hr.mono (by decide)) passL (pa_cons (pe_op op_add (pv 3) pe_int) (pa_cons (pv 4) (pa_cons (pv 5) (pa_cons (pv 6) pa_nil))))) pa_nil))))
        pss_nil)
      (pss_cons (ps_set (i := 11) sc_law.nd rfl (Or.inl rfl) (pe_callB (cr_sortedDk rfl) (by rfl) T.b_sorted (by decide +kernel) (pa_cons (pv 5) pa_nil)))
      (pss_cut (ps_if (pt_cmpR op_gt (pe_callB (cr_len (K := K)) (by rfl) T.b_len (by decide +kernel) (pa_cons (pv 11) pa_nil)) pe_int (nomark _)) (pss_cons (ps_set (i := 12) sc_law.nd rfl (Or.inl rfl) (pe_callTy cr_dictD (by rfl) T.b_dict (by decide +kernel) (pa_cons (pv 5) pa_nil)))
        (pss_cons (ps_asg (pe_dget hr.units1 (pv 5) (pe_ix (ixL (K := K)) (pv 11) (pe_un un_neg pe_int) (fun _ _ => rfl)) (fun _ _ => rfl)) (pg_sub (pv 12) (pe_ix (ixL (K := K)) (pv 11) pe_int (fun _ _ => rfl)) (set_dict hr.units1)))
        (pss_cons (ps_asg (pe_dget hr.units1 (pv 5) (pe_ix (ixL (K := K)) (pv 11) pe_int (fun _ _ => rfl)) (fun _ _ => rfl)) (pg_sub (pv 12) (pe_ix (ixL (K := K)) (pv 11) (pe_un un_neg pe_int) (fun _ _ => rfl)) (set_dict hr.units1)))
        (pss_one (ps_expr (pe_bmK (K := K) PySem.F.plainAttrs_list PySem.F.slot_list_append PySem.F.type_list_append mt_append (pv 10) (pa_cons (pe_makeD (mk_Codebook4 rfl D_Codebook___init__) (hr.mono (by decide)) passL (pa_cons (pv 3) (pa_cons (pv 4) (pa_cons (pv 12) (pa_cons (pv 6) pa_nil))))) pa_nil)))))))
        pss_nil)
      (pss_cons (ps_for (passes_of rfl) rfl (piL (K := K) (pv 11)) (pg_name (i := 8) sc_law.nd rfl (Or.inr rfl))
        (pss_cons (ps_set (i := 13) sc_law.nd rfl (Or.inl rfl) (pe_callTy (cr_dictP (K := K) rfl) (by rfl) T.b_dict (by decide +kernel) (pa_cons (pe_lock (pe_lc (own := [("one", 19)]) (g := gName 19) (by rfl) sc_law.nd (pi_keys (pv 5)) (blkOk_by (N := ["script", "pen", "turn", "radix", "depth", "words", "reserved", "book", "name", "turned", "changed_books", "names", "swapped", "fewer", "moved", "other", "parts", "expected", "thing", "one"]) (sc := defScope s_law) (by decide +kernel))
    (fun _ _ _ _ _ => (pg_name (i := 19) sc_law.nd rfl (Or.inl rfl))) (fun _ _ _ _ _ => (pts_one (pt_cmpR op_ne (pv 19) (pv 8) (nomark _)))) (fun _ _ _ _ _ => (pe_tupN (pa_cons (pv 19) (pa_cons (pe_dget hr.units1 (pv 5) (pv 19) (fun _ _ => rfl)) pa_nil)))))) pa_nil)))
        (pss_cons (ps_expr (pe_bmK (K := K) PySem.F.plainAttrs_list PySem.F.slot_list_append PySem.F.type_list_append mt_append (pv 10) (pa_cons (pe_makeD (mk_Codebook4 rfl D_Codebook___init__) (hr.mono (by decide)) passL (pa_cons (pv 3) (pa_cons (pv 4) (pa_cons (pv 13) (pa_cons (pe_op op_catA (pv 6) (pe_tupN (pa_cons (pe_dget hr.units1 (pv 5) (pv 8) (fun _ _ => rfl)) pa_nil))) pa_nil))))) pa_nil)))
        (pss_cons (ps_set (i := 14) sc_law.nd rfl (Or.inl rfl) (pe_callTy (cr_dictP (K := K) rfl) (by rfl) T.b_dict (by decide +kernel) (pa_cons (pe_lock (pe_lc (own := [("one", 19)]) (g := gName 19) (tt := tYes) (by rfl) sc_law.nd (pi_keys (pv 5)) (blkOk_by (N := ["script", "pen", "turn", "radix", "depth", "words", "reserved", "book", "name", "turned", "changed_books", "names", "swapped", "fewer", "moved", "other", "parts", "expected", "thing", "one"]) (sc := defScope s_law) (by decide +kernel))
    (fun _ _ _ _ _ => (pg_name (i := 19) sc_law.nd rfl (Or.inl rfl))) (fun _ _ _ _ _ => pts_nil) (fun _ _ _ _ _ => (pe_tupN (pa_cons (pe_mid (pe_ifExp (pt_cmpR op_eq (pv 19) (pv 8) (nomark _)) pe_str (pv 19))) (pa_cons (pe_dget hr.units1 (pv 5) (pv 19) (fun _ _ => rfl)) pa_nil)))))) pa_nil)))
        (pss_one (ps_expr (pe_bmK (K := K) PySem.F.plainAttrs_list PySem.F.slot_list_append PySem.F.type_list_append mt_append (pv 10) (pa_cons (pe_makeD (mk_Codebook4 rfl D_Codebook___init__) (hr.mono (by decide)) passL (pa_cons (pv 3) (pa_cons (pv 4) (pa_cons (pv 14) (pa_cons (pv 6) pa_nil))))) pa_nil))))))))
      (pss_cons (ps_for (passes_of rfl) rfl (piL (K := K) (pv 10)) (pg_name (i := 15) sc_law.nd rfl (Or.inl rfl))
        (pss_cons (ps_set (i := 16) sc_law.nd rfl (Or.inl rfl) (pe_tupN (pa_cons (pe_fldK (K := K) (pv 15) rfl) (pa_cons (pe_fldK (K := K) (pv 15) rfl) (pa_cons (pe_methD0 D_Codebook_words T.k_Codebook.cl (hr.mono (by decide)) passL (pv 15)) (pa_cons (pe_methD0 D_Codebook_reserved T.k_Codebook.cl (hr.mono (by decide)) passL (pv 15)) pa_nil))))))
        (pss_cons (ps_set (i := 17) sc_law.nd rfl (Or.inl rfl) (pe_cmpR (op_eqP hr.units) (pv 16) (pe_tupN (pa_cons (pv 3) (pa_cons (pv 4) (pa_cons (pv 5) (pa_cons (pe_callTy (cr_tupOf (K := K)) (by rfl) T.b_tuple (by decide +kernel) (pa_cons (pe_callB (cr_sortedA (K := K)) (by rfl) T.b_sorted (by decide +kernel) (pa_cons (pv 6) pa_nil)) pa_nil)) pa_nil))))) (nomark _)))
        (pss_one (ps_if (PW.pt (pw_or (pt_cmpR op_ne (pe_callB (cr_repD hgd hr.units) (by rfl) T.b_repr (by decide +kernel) (pa_cons (pe_cmpR (op_eqO D_Codebook___eq__ (hr.mono (by decide)) passL) (pv 7) (pv 15) (nomark _)) pa_nil)) (pe_callB (cr_repD hgd hr.units) (by rfl) T.b_repr (by decide +kernel) (pa_cons (pv 17) pa_nil)) (nomark _)) (pw_or1 (pt_cmpR op_ne (pe_callB (cr_repD hgd hr.units) (by rfl) T.b_repr (by decide +kernel) (pa_cons (pe_cmpR (op_eqO D_Codebook___eq__ (hr.mono (by decide)) passL) (pv 15) (pv 7) (nomark _)) pa_nil)) (pe_callB (cr_repD hgd hr.units) (by rfl) T.b_repr (by decide +kernel) (pa_cons (pv 17) pa_nil)) (nomark _))))) (pss_one (ps_ret pe_bl))
          pss_nil)))))
      (pss_one (ps_for (passes_of rfl) rfl (piL (K := K) (pe_lstN (pa_cons (pv 5) (pa_cons pe_non (pa_cons (pv 6) (pa_cons (pe_callTy (cr_strD hgd hr.units) (by rfl) T.b_str (by decide +kernel) (pa_cons (pv 5) pa_nil)) (pa_cons pe_int (pa_cons (pe_callD D__law_any (hr.mono (by decide)) passL (pa_cons (pv 1) (pa_cons pe_int pa_nil))) pa_nil)))))))) (pg_name (i := 18) sc_law.nd rfl (Or.inl rfl))
        (pss_one (ps_if (pt_cmpR op_isnot_bl (pe_cmpR (op_eqO D_Codebook___eq__ (hr.mono (by decide)) passL) (pv 7) (pv 18) (nomark _)) pe_bl (nomark _)) (pss_one (ps_ret pe_bl))
          pss_nil)))))))))))))))))
    (pss_one (ps_ret pe_bl)))), ?_⟩
    walk_at "w"
    refine ⟨a, ns, rfl, ha, hl, fun H1 p l s1 hp hl' P1 => ?_⟩
    walk_at "w"
    refine w_exR1 (by decide) (by decide) ?_
    refine for_it walk_range (fun i σ G => ∃ o2 o3 o4 o5 o6 o7 o8 o9 o10 o11 o12 o13 o14 o15 o16 o17 o18 : Option V, σ = [some (.ref a), some (.ref p), o2, o3, o4, o5, o6, o7, o8, o9, o10, o11, o12, o13, o14, o15, o16, o17, o18, none] ∧ PenAt (5000 * i) p l G)
      ⟨none, none, none, none, none, none, none, none, none, none, none, none, none, none, none, none, none, rfl, P1⟩ (fun _ _ _ _ _ => trivial) ?_ ?_
    · rintro i x0 σ G0' G0 hi ⟨o2, o3, o4, o5, o6, o7, o8, o9, o10, o11, o12, o13, o14, o15, o16, o17, o18, rfl, Pi⟩ ⟨rfl, rfl⟩
      have hi3 : i < 3 := hi
      walk_at "w"
      refine ⟨p, l, 5000 * i, 6, rfl, Pi, by omega, by omega, by omega, fun H4 T0 D S r h ws ss kp4 P4 nD eT eD eS pts => ?_⟩
      have ptsA := pts.a
      obtain ⟨r2, r4, h1, h6⟩ := ptsA.rh
      have lw := ptsA.lw
      have ls := ptsA.ls
      have nd := ptsA.nd
      have hs5 : h ≤ 5 ∧ ss.length ≤ 2 := by
        have hsh := pts.sh
        unfold shapes8 at hsh
        simp at hsh
        have := pts.ls
        omega
      have nDp : D ≠ p := (Pi.ne_p nD).symm
      walk_at "w"
      refine w_gtup (.of eT) rfl ?_
      walk_at "w"
      refine madeA ptsA eD (.inr eS) (fun bk H5 nb s5 hbk => ?_)
      walk_at "w"
      have eD5 := s5 _ _ eD
      have eS5 := s5 _ _ eS
      refine w_rev ?_
      walk_at "w"
      refine w_sortedD (ws.map fun q : Str × Str => q.1) eD5 (wd_keys ws) (by rw [List.length_map]; omega) (fun ys hp2 hs2 q2 H6 n6 s6 e6 => ?_)
      have eys := srt_of hp2 hs2
      subst eys
      refine ⟨_, _, rfl, .of e6, fun q3 H7 n7 s7 e7 => ?_⟩
      rw [← List.map_reverse] at e7
      refine w_exL (.of e7) ?_
      have s57 := s6.trans s7
      intro D2 hD2
      refine lc_named (K := K) (ws := ws) (walk_list (K := K) (a := q3) (xs := (srt (ws.map fun q : Str × Str => q.1)).reverse.map V.str)) (by rw [List.length_reverse, srt_len, List.length_map]; omega) hD2 (fun H' s => .of (s _ _ e7)) (fun n HA Ky hv sA ky => ?_) (fun HA ps sA eA prA => ?_)
      · have hm' : n ∈ ws.map (·.1) := srt_mem.mp (List.mem_reverse.mp hv)
        walk_at "w"
        refine ⟨D, _, rfl, .inl ⟨_, keyS n, .inl (sA _ _ (s57 _ _ eD5)), rfl, (val_wd nd hm').symm⟩, ?_⟩
        walk_at "w"
        exact ky _ (Same.refl _)
      have eRev : ((srt (ws.map fun q : Str × Str => q.1)).reverse.map fun n => (n, look ws n)) = (srtW ws).reverse := by
        rw [List.map_reverse]
        rfl
      rw [eRev] at prA
      have ndR : (((srtW ws).reverse).map (·.1)).Nodup := by
        rw [List.map_reverse]
        exact ((List.reverse_perm _).nodup_iff).mpr (srtW_nodup nd)
      have pmR : ((srtW ws).reverse).Perm ws := (List.reverse_perm _).trans (srtW_perm nd)
      walk_at "w"
      refine w_dictP (wd (srtW ws).reverse) (.of eA) prA (fun Dt HB nDt sB eDt => ?_)
      rw [merge_wd ndR] at eDt
      have s5B := s57.trans (sA.trans sB)
      clear e6 e7 n6 n7 s6 s7 s57 hD2 eA sA sB prA hp2 hs2
      walk_at "w"
      refine w_revT ?_
      walk_at "w"
      refine ⟨S, ss.map V.str, rfl, .of (s5B _ _ eS5), fun S2 HC nS2 sC eS2 => ?_⟩
      rw [← List.map_reverse] at eS2
      walk_at "w"
      have rh0 : 2 ≤ r ∧ r ≤ 4 ∧ 1 ≤ h ∧ h ≤ 6 := ⟨r2, r4, h1, h6⟩
      refine madeA (ptsA.of (ws' := (srtW ws).reverse) (ss' := ss.reverse) rh0 (Int.le_refl _) (Int.le_refl _) ndR (fun n hn => ptsA.nm n ((pmR.map (·.1)).mem_iff.mp hn)) ⟨_, ((pmR.map (·.2)).append (List.reverse_perm _)).symm, List.Sublist.refl _⟩ (by rw [pmR.length_eq]; omega) (by rw [List.length_reverse]; omega)) (sC _ _ eDt) (.inr eS2) (fun bk2 HD nb2 sD hbk2 => ?_)
      walk_at "w"
      have s5D := s5B.trans (sC.trans sD)
      refine cmp_books T.k_Codebook (hbk.keep s5D) hbk2 (fun HE sE => ?_)
      rw [same_true nd pmR (List.reverse_perm _)]
      show tC (V.bl true) _ _ _
      walk_at "w"
      refine ⟨true, true, rfl, rfl, ?_⟩
      refine ⟨false, rfl, ?_⟩
      walk_at "w"
      refine w_listOfT (.of ((s5D.trans sE) _ _ eS5)) (fun S3 HF nS3 sF eS3 => ?_)
      walk_at "w"
      refine madeA ptsA ((s5D.trans (sE.trans sF)) _ _ eD5) (.inl eS3) (fun bk3 HG nb3 sG hbk3 => ?_)
      walk_at "w"
      have s5G := s5D.trans (sE.trans (sF.trans sG))
      refine cmp_books T.k_Codebook (hbk.keep s5G) hbk3 (fun HI sI => ?_)
      rw [same_true nd (List.Perm.refl _) (List.Perm.refl _)]
      refine ⟨false, rfl, ?_⟩
      walk_at "w"
      have s4I := s5.trans (s5G.trans sI)
      have eDI := s4I _ _ eD
      have eSI := s4I _ _ eS
      have bkI := (hbk.keep s5G).keep sI
      have PI := P4.keep s4I
      clear s5B sC sD sE sF sG sI s5D s5G nb2 nb3 nS2 nS3 eS2 eS3 hbk2 hbk3 eDt nDt hbk eD5 eS5 nb s5
      walk_at "w"
      have ptsU : PartsA r (h + 1) ws ss := ptsA.of ⟨r2, r4, by omega, by omega⟩ (Int.le_refl _) (by omega) nd ptsA.nm ⟨_, List.Perm.refl _, List.Sublist.refl _⟩ lw ls
      refine madeA ptsU eDI (.inr eSI) (fun ba Ha na sa ba_k => ?_)
      walk_at "w"
      intro De Hb ne sb ee
      walk_at "w"
      have pts0 : PartsA r h [] ss := ptsA.of rh0 (Int.le_refl _) (Int.le_refl _) (by simp) (by simp) ⟨_, List.Perm.refl _, List.sublist_append_right _ _⟩ (by simp) ls
      refine madeA (ws := []) pts0 ee (.inr ((sa.trans sb) _ _ eSI)) (fun bb Hc nbb sc bb_k => ?_)
      walk_at "w"
      intro X Hd nX sd eX
      walk_at "w"
      refine ⟨w_tyL (.of eX), ?_⟩
      walk_at "w"
      have s0d := sa.trans (sb.trans (sc.trans sd))
      refine made0 rh0 nd ptsA.nm (fun x hx => ptsA.cd x (by rw [List.append_nil] at hx; exact List.mem_append_left _ hx)) (pfB_of_pw (ptsA.pw.sublist (by rw [List.append_nil]; exact List.sublist_append_left _ _))) (by omega) (s0d _ _ eDI) T.d0_Codebook (fun bc He nbc se bc_k => ?_)
      walk_at "w"
      have nXI : HI X = none := Same.free (sa.trans (sb.trans sc)) nX
      have B3 : Bks c HI X 2 He := by
        refine ⟨s0d.trans se, [.ref ba, .ref bb], se _ _ eX, Nat.le_refl _, fun y hy => ?_⟩
        rcases List.mem_cons.mp hy with rfl | hy
        · exact ⟨_, _, _, _, _, rfl, ba_k.keep (sb.trans (sc.trans (sd.trans se)))⟩
        · rw [List.mem_singleton.mp hy]
          exact ⟨_, _, _, _, _, rfl, bb_k.keep (sd.trans se)⟩
      refine B3.app nXI (by decide) ⟨_, _, _, _, _, rfl, bc_k⟩ (fun Hf _ B4 => ?_)
      clear B3 bc_k bb_k ba_k se sd sc sb sa na nbb nbc ne ee eX nX s0d
      walk_at "w"
      refine w_cut (fun σ' H' => σ' = [some (.ref a), some (.ref p), some (.int (0 + (i : Nat))), some (.int r), some (.int h), some (.ref D), some (.ref S), some (.ref bk), o8, some (.ref Dt), some (.ref X), o11, o12, o13, o14, o15, o16, o17, o18, none] ∧ Bks c HI X 4 H') ?_ ?_
      · walk_at "w"
        refine ifB (fun c1 => ?_) (fun c1 => ?_)
        · have c1' := of_decide_eq_true c1
          walk_at "w"
          refine ⟨B4.ty, ?_⟩
          walk_at "w"
          refine madeA (ptsA.of (r' := r + 1) (h' := h) (ws' := ws) (ss' := ss) ⟨by omega, by omega, h1, h6⟩ (by omega) (Int.le_refl _) nd ptsA.nm ⟨_, List.Perm.refl _, List.Sublist.refl _⟩ lw ls) (B4.1 _ _ eDI) (.inr (B4.1 _ _ eSI)) (fun bd Hg nbd sg bd_k => ?_)
          walk_at "w"
          refine (B4.keep sg).app nXI (by decide) ⟨_, _, _, _, _, rfl, bd_k⟩ (fun Hh _ B5 => ?_)
          walk_at "w"
          exact ⟨rfl, B5⟩
        · walk_at "w"
          exact ⟨rfl, B4.mono (by decide)⟩
      rintro σ1 G1 ⟨rfl, B4⟩
      walk_at "w"
      refine w_sortedD (ws.map fun q : Str × Str => q.1) (B4.1 _ _ eDI) (wd_keys ws) (by rw [List.length_map]; omega) (fun ys hp2 hs2 q2 G2 n6 s6 e6 => ?_)
      have eys := srt_of hp2 hs2
      subst eys
      have nq2X : q2 ≠ X := fun z => by
        obtain ⟨_, ys, e, _⟩ := B4
        rw [z, e] at n6
        cases n6
      have B4 := B4.keep s6
      walk_at "w"
      have ndn : (srt (ws.map fun q : Str × Str => q.1)).Nodup := srt_nodup.mpr nd
      have lns : (srt (ws.map fun q : Str × Str => q.1)).length = ws.length := by rw [srt_len, List.length_map]
      have mns : ∀ n ∈ srt (ws.map fun q : Str × Str => q.1), n ∈ ws.map (·.1) := fun n hn => srt_mem.mp hn
      generalize srt (ws.map fun q : Str × Str => q.1) = ns' at e6 ndn lns mns
      refine w_cut (fun σ' H' => ∃ o12', σ' = [some (.ref a), some (.ref p), some (.int (0 + (i : Nat))), some (.int r), some (.int h), some (.ref D), some (.ref S), some (.ref bk), o8, some (.ref Dt), some (.ref X), some (.ref q2), o12', o13, o14, o15, o16, o17, o18, none] ∧ Bks c HI X 5 H' ∧ Kp [X] G2 H') ?_ ?_
      · walk_at "w"
        refine w_lenL (.of e6) ?_
        walk_at "w"
        refine ifB (fun c1 => ?_) (fun c1 => ?_)
        · have c1' := of_decide_eq_true c1
          rw [List.length_map] at c1'
          obtain ⟨n0, n1, hn0, hn1, ne01, at0, at1⟩ := first_last ndn (by omega)
          walk_at "w"
          refine w_dictD (B4.1 _ _ eDI) (fun Dd G3 nDd s7 eDd => ?_)
          walk_at "w"
          have m0 := mns n0 hn0
          have m1 := mns n1 hn1
          obtain ⟨lp, us, eus, ndu, pu1, pu2⟩ := swap_wd nd m0 m1 ne01
          refine w_ixL (.of (s7 _ _ e6)) at1 ?_
          refine ⟨D, _, rfl, .inl ⟨_, keyS n1, .inl (s7 _ _ (B4.1 _ _ eDI)), rfl, (val_wd nd m1).symm⟩, ?_⟩
          walk_at "w"
          refine w_ixL (.of (s7 _ _ e6)) at0 ?_
          refine w_setD n0 eDd (by unfold wd; rw [List.length_map]; omega) ?_
          have s8 : Same G2 (upd G3 Dd (.dK (putK (wd ws) (keyS n0) (.str (look ws n1))))) := same_put s7 nDd
          have eD8 : (upd G3 Dd (.dK (putK (wd ws) (keyS n0) (.str (look ws n1))))) Dd = some (.dK (putK (wd ws) (keyS n0) (.str (look ws n1)))) := upd_same
          generalize upd G3 Dd (.dK (putK (wd ws) (keyS n0) (.str (look ws n1)))) = G4 at s8 eD8
          clear s7 eDd
          walk_at "w"
          refine w_ixL (.of (s8 _ _ e6)) at0 ?_
          refine ⟨D, _, rfl, .inl ⟨_, keyS n0, .inl (s8 _ _ (B4.1 _ _ eDI)), rfl, (val_wd nd m0).symm⟩, ?_⟩
          walk_at "w"
          refine w_ixL (.of (s8 _ _ e6)) at1 ?_
          refine w_setD n1 eD8 (by omega) ?_
          rw [eus]
          have s9 : Same G2 (upd G4 Dd (.dK (wd us))) := same_put s8 nDd
          have eD9 : (upd G4 Dd (.dK (wd us))) Dd = some (.dK (wd us)) := upd_same
          generalize upd G4 Dd (.dK (wd us)) = G5 at s9 eD9
          clear s8 eD8
          walk_at "w"
          have B5 := B4.keep s9
          refine ⟨B5.ty, ?_⟩
          walk_at "w"
          refine madeA (ptsA.of (r' := r) (h' := h) (ws' := us) (ss' := ss) rh0 (Int.le_refl _) (Int.le_refl _) ndu (fun n hn => ptsA.nm n (pu1.mem_iff.mp hn)) ⟨_, (pu2.append_right _).symm, List.Sublist.refl _⟩ (by have := pu1.length_eq; rw [List.length_map, List.length_map] at this; omega) ls) eD9 (.inr (B5.1 _ _ eSI)) (fun bd Hg nbd sg bd_k => ?_)
          walk_at "w"
          refine (B5.keep sg).app nXI (by decide) ⟨_, _, _, _, _, rfl, bd_k⟩ (fun Hh kh B6 => ?_)
          walk_at "w"
          exact ⟨_, rfl, B6, (same_wo (s9.trans sg) _).trans kh⟩
        · walk_at "w"
          exact ⟨_, rfl, B4.mono (by decide), same_wo (Same.refl _) _⟩
      rintro σ1 G3 ⟨o12', rfl, B5, kp3⟩
      walk_at "w"
      refine ⟨q2, rfl, ⟨_, .of (kp_at kp3 (by simpa using nq2X) e6)⟩, ?_⟩
      refine for_it (walk_list (K := K) (a := q2) (xs := ns'.map V.str)) (fun j σ G => ∃ o8' o13' o14', σ = [some (.ref a), some (.ref p), some (.int (0 + (i : Nat))), some (.int r), some (.int h), some (.ref D), some (.ref S), some (.ref bk), o8', some (.ref Dt), some (.ref X), some (.ref q2), o12', o13', o14', o15, o16, o17, o18, none] ∧ Bks c HI X (5 + 2 * j) G ∧ Kp [X] G2 G) ⟨_, _, _, rfl, B5, kp3⟩ (fun _ _ _ _ ⟨_, _, _, _, _, k⟩ => .of (kp_at k (by simpa using nq2X) e6)) ?_ ?_
      · rintro j v σ Gx Gj hj ⟨o8', o13', o14', rfl, Bj, kpj⟩ ⟨rfl, hv⟩
        obtain ⟨n, hn, rfl⟩ := List.mem_map.mp (List.mem_of_getElem? hv)
        have hm := mns n hn
        have lj : j < 12 := by
          rw [List.length_map] at hj
          omega
        have hDj := Bj.1 _ _ eDI
        walk_at "w"
        refine w_lockE hDj trivial (fun od => ?_)
        walk_at "w"
        have hfz : (upd Gj D (.frz od (.dK (wd ws)))) D = some (.frz od (.dK (wd ws))) := upd_same
        refine ⟨D, od, rfl, .inl ⟨_, hfz, fun Fn hFn => ?_⟩⟩
        have neF : Fn ≠ D := (ne_of_none hfz hFn).symm
        have wk := walkV_keys (d := D) (o := od) (kvs := wd ws)
        rw [keys_wd] at wk
        refine lc_namedF (K := K) wk (look ws) (fun x => decide (x ≠ n)) (by rw [List.length_map]; omega) hFn (fun H' s => s _ _ hfz) (fun x Hf Ky Kn hx sf' ky kn => ?_) (fun Gg ps tg eg pr => ?_)
        · walk_at "w"
          refine ifND (fun c1 => ?_) (fun c1 => ?_)
          · walk_at "w"
            refine ⟨D, .str (look ws x), rfl, .inl ⟨wd ws, keyS x, .inr ⟨od, sf' _ _ hfz⟩, rfl, (val_wd nd hx).symm⟩, ?_⟩
            walk_at "w"
            exact ky (by simpa using c1) _ (Same.refl _)
          · walk_at "w"
            exact kn (by simpa using c1) _ (Same.refl _)
        refine ⟨tg _ _ hfz, ?_⟩
        have sg : Same Gj (upd Gg D (.dK (wd ws))) := frz_back hDj tg
        have eg' : (upd Gg D (.dK (wd ws))) Fn = some (.lst (ps.map V.ref)) := by rw [upd_ne neF]; exact eg
        have pr' := L2.Paired.mapP pr fun p kv z => sqT_unl (v := .dK (wd ws)) (tg _ _ hfz) z
        rw [filt_look nd] at pr'
        generalize (upd Gg D (.dK (wd ws))) = Gh at sg eg' pr'
        clear hfz hFn neF pr eg tg wk
        have ndf : ((ws.filter fun p => decide (p.1 ≠ n)).map (·.1)).Nodup := nd.sublist (List.filter_sublist.map _)
        walk_at "w"
        refine w_dictP _ (.of eg') pr' (fun Df Gi ni si ei => ?_)
        rw [merge_wd ndf] at ei
        have Bi := (Bj.keep sg).keep si
        walk_at "w"
        refine ⟨Bi.ty, ?_⟩
        walk_at "w"
        refine ⟨D, .str (look ws n), rfl, .inl ⟨wd ws, keyS n, .inl (Bi.1 _ _ eDI), rfl, (val_wd nd hm).symm⟩, ?_⟩
        walk_at "w"
        intro T1 Gm nT1 sm eT1
        refine w_catA ((Bi.1.trans sm) _ _ eSI) eT1 (by rw [List.length_map, sizeLine_eq]; simp; omega) (by simp) (fun T2 Gn sn eT2 => ?_)
        rw [show ss.map V.str ++ [V.str (look ws n)] = (ss ++ [look ws n]).map V.str by rw [List.map_append]; rfl] at eT2
        have tk := (take_out nd (look_in nd hm)).map (·.2)
        rw [List.map_append] at tk
        have Bn := (Bi.keep sm).keep sn
        walk_at "w"
        refine madeA (ptsA.of (r' := r) (h' := h) (ws' := ws.filter fun p => decide (p.1 ≠ n)) (ss' := ss ++ [look ws n]) rh0 (Int.le_refl _) (Int.le_refl _) ndf (fun x hx => ptsA.nm x ((List.filter_sublist.map _).subset hx)) ⟨_, (tk.append_right ss).trans (by
          rw [List.append_assoc]
          exact (List.Perm.refl _).append (List.perm_append_comm)), List.Sublist.refl _⟩ (by have := List.length_filter_le (fun p : Str × Str => decide (p.1 ≠ n)) ws; omega) (by rw [List.length_append]; simp; omega)) ((sm.trans sn) _ _ ei) (.inr eT2) (fun be Go nbe so be_k => ?_)
        walk_at "w"
        refine (Bn.keep so).app nXI (by omega) ⟨_, _, _, _, _, rfl, be_k⟩ (fun Gp kp Bp => ?_)
        have kpP : Kp [X] G2 Gp := kpj.trans ((same_wo (sg.trans (si.trans (sm.trans (sn.trans so)))) _).trans kp)
        clear Bn Bi ei so sn sm nT1 eT1 eT2 be_k nbe si sg eg' pr' ni Bj kpj hDj kp
        walk_at "w"
        have hDp := Bp.1 _ _ eDI
        refine w_lockE hDp trivial (fun od2 => ?_)
        walk_at "w"
        have hfz : (upd Gp D (.frz od2 (.dK (wd ws)))) D = some (.frz od2 (.dK (wd ws))) := upd_same
        refine ⟨D, od2, rfl, .inl ⟨_, hfz, fun Fn hFn => ?_⟩⟩
        have neF : Fn ≠ D := (ne_of_none hfz hFn).symm
        refine lc_pairs (K := K) (walkV_keys (d := D) (o := od2) (kvs := wd ws)) (fun v => keyS (if strOf v = n then "n" else strOf v)) (fun v => .str (look ws (strOf v))) (by rw [List.length_map]; unfold wd; rw [List.length_map]; omega) hFn (fun H' s => s _ _ hfz) (fun v Hf Ky hv sf' ky => ?_) (fun Gg ps tg eg pr => ?_)
        · rw [keys_wd] at hv
          obtain ⟨x, hx, rfl⟩ := List.mem_map.mp hv
          have es : strOf (.str x) = x := rfl
          rw [es] at ky
          walk_at "w"
          refine w_mid (fun v' G' => v' = .str (if x = n then "n" else x) ∧ Same Hf G') ?_ ?_
          · walk_at "w"
            refine ifD (fun c1 => ?_) (fun c1 => ?_)
            · walk_at "w"
              exact ⟨by rw [if_pos c1], Same.refl _⟩
            · walk_at "w"
              exact ⟨by rw [if_neg c1], Same.refl _⟩
          · rintro v' G' ⟨rfl, s2⟩
            walk_at "w"
            refine ⟨D, .str (look ws x), rfl, .inl ⟨wd ws, keyS x, .inr ⟨od2, s2 _ _ (sf' _ _ hfz)⟩, rfl, (val_wd nd hx).symm⟩, ?_⟩
            walk_at "w"
            exact ky _ s2
        refine ⟨tg _ _ hfz, ?_⟩
        have sg : Same Gp (upd Gg D (.dK (wd ws))) := frz_back hDp tg
        have eg' : (upd Gg D (.dK (wd ws))) Fn = some (.lst (ps.map V.ref)) := by rw [upd_ne neF]; exact eg
        have pr' := L2.Paired.mapP pr fun p kv z => sqT_unl (v := .dK (wd ws)) (tg _ _ hfz) z
        rw [mov_wd nd] at pr'
        generalize (upd Gg D (.dK (wd ws))) = Gh at sg eg' pr'
        clear hfz hFn neF pr eg tg
        have hnn : ("n" : Str) ∉ ws.map (·.1) := fun z => absurd (pts.nm _ z) (by decide +kernel)
        have ndm := mov_nd (n := n) nd hnn
        walk_at "w"
        refine w_dictP _ (.of eg') pr' (fun Dm Gi ni si ei => ?_)
        rw [merge_wd ndm] at ei
        have Bi := (Bp.keep sg).keep si
        walk_at "w"
        refine ⟨Bi.ty, ?_⟩
        walk_at "w"
        refine madeA (ptsA.of (r' := r) (h' := h) (ws' := movW ws n) (ss' := ss) rh0 (Int.le_refl _) (Int.le_refl _) ndm (mov_names ptsA.nm) ⟨_, by rw [mov_snd], List.Sublist.refl _⟩ (by unfold movW; rw [List.length_map]; omega) ls) ei (.inr (Bi.1 _ _ eSI)) (fun bf Gq nbf sq bf_k => ?_)
        walk_at "w"
        refine (Bi.keep sq).app nXI (by omega) ⟨_, _, _, _, _, rfl, bf_k⟩ (fun Gr kq Bq => ?_)
        walk_at "w"
        exact ⟨_, _, _, rfl, Bq.mono (by omega), kpP.trans ((same_wo (sg.trans (si.trans sq)) _).trans kq)⟩
      rintro σ Gl ⟨o8', o13', o14', rfl, Bl, kpl⟩
      walk_at "w"
      obtain ⟨slI, ys, eXl, lys, hys⟩ := Bl
      refine ⟨X, rfl, ⟨_, .of eXl⟩, ?_⟩
      have bkl := bkI.keep slI
      have eDl := slI _ _ eDI
      have eSl := slI _ _ eSI
      have Pl := PI.keep slI
      refine for_it (walk_list (K := K) (a := X) (xs := ys)) (fun j σ G => ∃ o15' o16' o17', σ = [some (.ref a), some (.ref p), some (.int (0 + (i : Nat))), some (.int r), some (.int h), some (.ref D), some (.ref S), some (.ref bk), o8', some (.ref Dt), some (.ref X), some (.ref q2), o12', o13', o14', o15', o16', o17', o18, none] ∧ Same Gl G) ⟨_, _, _, rfl, Same.refl _⟩ (fun _ _ _ _ ⟨_, _, _, _, s⟩ => .of (s _ _ eXl)) ?_ ?_
      · rintro j v σ Gx G hj ⟨o15', o16', o17', rfl, sG⟩ ⟨rfl, hv⟩
        obtain ⟨b, r', h', ws', bl', rfl, bk'0⟩ := hys v (List.mem_of_getElem? hv)
        have bk' := bk'0.keep sG
        obtain ⟨⟨dx, Dn, Tn, d1, d2, d3⟩, bb⟩ := id bk'
        walk_at "w"
        refine ⟨b, _, dx, _, .int r', rfl, d1, T.k_Codebook.cl, T.n_Codebook_radix, rfl, ?_⟩
        walk_at "w"
        refine ⟨b, _, dx, _, .int h', rfl, d1, T.k_Codebook.cl, T.n_Codebook_depth, rfl, ?_⟩
        walk_at "w"
        refine ⟨b, dx, _, rfl, d1, rfl, ?_⟩
        walk_at "w"
        refine ⟨b, r', h', ws', bl', rfl, bk', fun W G1 nW sW eW => ?_⟩
        walk_at "w"
        refine ⟨b, dx, _, rfl, sW _ _ d1, rfl, ?_⟩
        walk_at "w"
        refine ⟨b, r', h', ws', bl', rfl, bk'.keep sW, fun Tr eTr => ?_⟩
        walk_at "w"
        intro Pt G2' nP sP eP
        walk_at "w"
        refine w_sortedT (.of ((sG.trans (sW.trans sP)) _ _ eSl)) (by omega) (fun zs hp3 hs3 Ls G3 nLs sL eLs => ?_)
        have ezs := srt_of hp3 hs3
        subst ezs
        walk_at "w"
        refine w_tupOfL (.of eLs) (fun Ts G4 nTs sT eTs => ?_)
        walk_at "w"
        intro Pe G5 nPe sPe ePe
        walk_at "w"
        have sG5 : Same Gl G5 := sG.trans (sW.trans (sP.trans (sL.trans (sT.trans sPe))))
        have s15 : Same G1 G5 := sP.trans (sL.trans (sT.trans sPe))
        refine w_eqP ((sL.trans (sT.trans sPe)) _ _ eP) ePe (s15 _ _ eW) (sG5 _ _ eDl) (fun z => by rw [z, sG _ _ eDl] at nW; cases nW) (s15 _ _ eTr) (sPe _ _ eTs) (fun z => by rw [← z, (sP.trans sL) _ _ eTr] at nTs; cases nTs) ?_
        have n2' := bb.nd
        obtain ⟨q1, q3⟩ := eqKV_srt nd n2'
        walk_at "w"
        refine cmp_books T.k_Codebook (bkl.keep sG5) (bk'0.keep sG5) (fun G6 s6 => ?_)
        walk_at "w"
        have x1 : (decide (r = r') && decide (h = h') && eqKV (wd (srtW ws)) (wd ws') && decide (srt ss = bl')) = (decide (r' = r) && decide (h' = h) && eqKV (wd ws') (wd ws) && decide (bl' = srt ss)) := by
          rw [q1, show decide (r = r') = decide (r' = r) from decide_eq_decide.mpr eq_comm, show decide (h = h') = decide (h' = h) from decide_eq_decide.mpr eq_comm, show decide (srt ss = bl') = decide (bl' = srt ss) from decide_eq_decide.mpr eq_comm]
        have x2 : (decide (r' = r) && decide (h' = h) && eqKV (wd ws') (wd (srtW ws)) && decide (bl' = srt ss)) = (decide (r' = r) && decide (h' = h) && eqKV (wd ws') (wd ws) && decide (bl' = srt ss)) := by rw [q3]
        rw [x1]
        generalize hex : (decide (r' = r) && decide (h' = h) && eqKV (wd ws') (wd ws) && decide (bl' = srt ss)) = ex at x2
        refine w_repD (.bl _) ?_
        walk_at "w"
        refine w_repD (.bl _) ?_
        walk_at "w"
        rw [show (!decide ((PyData.bool (id ex)).shown = (PyData.bool ex).shown)) = false from congrArg not (decide_eq_true (show (PyData.bool (id ex)).shown = (PyData.bool ex).shown from rfl))]
        walk_at "w"
        refine cmp_books T.k_Codebook ((bk'0.keep sG5).keep s6) ((bkl.keep sG5).keep s6) (fun G7 s7 => ?_)
        rw [x2]
        walk_at "w"
        refine w_repD (.bl _) ?_
        walk_at "w"
        refine w_repD (.bl _) ?_
        walk_at "w"
        rw [show (!decide ((PyData.bool (id ex)).shown = (PyData.bool ex).shown)) = false from congrArg not (decide_eq_true (show (PyData.bool (id ex)).shown = (PyData.bool ex).shown from rfl))]
        walk_at "w"
        exact ⟨_, _, _, rfl, sG5.trans (s6.trans s7)⟩
      rintro σ Gx ⟨o15', o16', o17', rfl, sx⟩
      have bkx := bkl.keep sx
      have eDx := sx _ _ eDl
      have eSx := sx _ _ eSl
      have Px := Pl.keep sx
      walk_at "w"
      have okw : ∀ q ∈ ws, okS q.1 ∧ okS q.2 ∧ q.1.length ≤ 8 ∧ q.2.length ≤ 6 := fun q hq => by
        have hp : ∀ x ∈ poolS, PyData.strOk x = true ∧ x.length ≤ 8 := by decide +kernel
        have z := hp _ (pts.nm _ (List.mem_map.mpr ⟨q, hq, rfl⟩))
        have y := codes_ok r4 h6 (ptsA.cd q.2 (List.mem_append_left _ (List.mem_map.mpr ⟨q, hq, rfl⟩)))
        exact ⟨⟨by omega, z.1⟩, y.1, z.2, y.2⟩
      have okss : ∀ x ∈ ss, okS x := fun x hx => (codes_ok r4 h6 (ptsA.cd x (List.mem_append_right _ hx))).1
      obtain ⟨dd, rdd, okd⟩ := wd_data eDx okw (by omega)
      refine ⟨D, dd, rfl, rdd, ?_⟩
      walk_at "w"
      refine ⟨p, l, _, 2, rfl, by decide, by decide, Px, by omega, fun Gy vy kpy Py avy _ => ?_⟩
      walk_at "w"
      intro Y Gz nY sY eY
      refine w_exL (.of eY) ?_
      have pD : D ≠ p := nDp
      have bky : BookAt c Gz bk r h (srtW ws) (srt ss) := (bkx.kps (S := [p]) (fun a ha => by rw [List.mem_singleton.mp ha, (pn_ex Px).1]; decide) kpy).keep sY
      have eDz := sY _ _ (kp_at kpy (by simpa using nDp) eDx)
      have nSp : S ≠ p := fun z => by
        have := (pn_ex Px).1
        rw [← z, eSx] at this
        cases this
      have eSz := sY _ _ (kp_at kpy (by simpa using nSp) eSx)
      have all : ∀ v ∈ [V.ref D, V.non, V.ref S, V.str dd.shown, V.int 5, vy], AnyV Gz v := by
        intro v hv
        simp only [List.mem_cons, List.not_mem_nil, or_false] at hv
        rcases hv with rfl | rfl | rfl | rfl | rfl | rfl
        · exact any_wd eDz (by omega) (fun q hq => ⟨(okw q hq).1, (okw q hq).2.1⟩)
        · exact .non
        · exact .tup eSz (by rw [List.length_map]; omega) (fun x hx => by
            obtain ⟨z, hz, rfl⟩ := List.mem_map.mp hx
            exact .str z (okss z hz))
        · exact .str _ okd
        · exact .int 5
        · exact (avy.keep (nw_same _ _)).keep sY
      refine for_it (walk_list (K := K) (a := Y) (xs := [V.ref D, V.non, V.ref S, V.str dd.shown, V.int 5, vy])) (fun j σ G => ∃ o18', σ = [some (.ref a), some (.ref p), some (.int (0 + (i : Nat))), some (.int r), some (.int h), some (.ref D), some (.ref S), some (.ref bk), o8', some (.ref Dt), some (.ref X), some (.ref q2), o12', o13', o14', o15', o16', o17', o18', none] ∧ Same Gz G) ⟨_, rfl, Same.refl _⟩ (fun _ _ _ _ ⟨_, _, s⟩ => .of (s _ _ eY)) ?_ ?_
      · rintro j v σ Gx2 G hj ⟨o18', rfl, sG⟩ ⟨rfl, hv⟩
        have av := (all v (List.mem_of_getElem? hv)).keep sG
        walk_at "w"
        refine cmp_thing T.k_Codebook (bky.keep sG) av (fun G7 s7 => ?_)
        walk_at "w"
        refine ⟨false, false, rfl, rfl, ?_⟩
        refine ⟨false, rfl, ?_⟩
        walk_at "w"
        exact ⟨_, rfl, sG.trans s7⟩
      · rintro σ G ⟨o18', rfl, sG⟩
        walk_at "w"
        exact ⟨_, _, _, _, _, _, _, _, _, _, _, _, _, _, _, _, _, rfl, ((Py.keep sY).keep sG).mono (by omega)⟩
    · rintro σ H2 ⟨o2, o3, o4, o5, o6, o7, o8, o9, o10, o11, o12, o13, o14, o15, o16, o17, o18, rfl, P2⟩
      walk_at "w"
      exact k _
end

theorem all_mk {l : PySem.W.OpenLaw} {w : World} {K : PySem.W.Frag} {h : Heap} {mg : Str → Option Value} {fa : Addr} (X : K.In h) (G : h.Ns mainGlobals mg) (hfa : mg "law" = some (.ref fa))
    (z_len : PySem.W.nsIn K mainGlobals "len" = some none)
    (z_isinstance : PySem.W.nsIn K mainGlobals "isinstance" = some none)
    (z_all : PySem.W.nsIn K mainGlobals "all" = some none)
    (z_any : PySem.W.nsIn K mainGlobals "any" = some none)
    (z_str : PySem.W.nsIn K mainGlobals "str" = some none)
    (z_int : PySem.W.nsIn K mainGlobals "int" = some none)
    (z_bool : PySem.W.nsIn K mainGlobals "bool" = some none)
    (z_list : PySem.W.nsIn K mainGlobals "list" = some none)
    (z_tuple : PySem.W.nsIn K mainGlobals "tuple" = some none)
    (z_dict : PySem.W.nsIn K mainGlobals "dict" = some none)
    (z_range : PySem.W.nsIn K mainGlobals "range" = some none)
    (z_sorted : PySem.W.nsIn K mainGlobals "sorted" = some none)
    (z_sum : PySem.W.nsIn K mainGlobals "sum" = some none)
    (z_min : PySem.W.nsIn K mainGlobals "min" = some none)
    (z_max : PySem.W.nsIn K mainGlobals "max" = some none)
    (z_repr : PySem.W.nsIn K mainGlobals "repr" = some none)
    (z_enumerate : PySem.W.nsIn K mainGlobals "enumerate" = some none)
    (z_zip : PySem.W.nsIn K mainGlobals "zip" = some none)
    (z_set : PySem.W.nsIn K mainGlobals "set" = some none)
    {t_gLETTERS : Tok} (y_gLETTERS : PySem.W.nsIn K mainGlobals "LETTERS" = some (some (.str "abcdefghijklmnopqrstuvwxyz" t_gLETTERS)))
    {t_gDIGITS : Tok} (y_gDIGITS : PySem.W.nsIn K mainGlobals "DIGITS" = some (some (.str "0123" t_gDIGITS)))
    {t_gMAX_NAME : Tok} (y_gMAX_NAME : PySem.W.nsIn K mainGlobals "MAX_NAME" = some (some (.int 8 t_gMAX_NAME)))
    {C_CodeError : Addr} (aC_CodeError : PySem.W.nsIn K mainGlobals "CodeError" = some (some (.ref C_CodeError)))
    {C_InvalidCodebook : Addr} (aC_InvalidCodebook : PySem.W.nsIn K mainGlobals "InvalidCodebook" = some (some (.ref C_InvalidCodebook)))
    {C_UnknownName : Addr} (aC_UnknownName : PySem.W.nsIn K mainGlobals "UnknownName" = some (some (.ref C_UnknownName)))
    {C_Codebook : Addr} (aC_Codebook : PySem.W.nsIn K mainGlobals "Codebook" = some (some (.ref C_Codebook)))
    (x1_CodeError : PySem.W.excIn K C_CodeError [.type "ValueError", .type "Exception", .type "BaseException", .type "object"] "ValueError.__new__" = true)
    (x2_CodeError : PySem.W.keepIn K (.ref C_CodeError) = true)
    (x3_CodeError : PySem.W.subIn K (.ref C_CodeError) (.type "BaseException") = some true)
    (x4_CodeError : PySem.W.typeIn K (.ref C_CodeError) = some (.type "type"))
    (x5_CodeError : PySem.W.isClsIn K C_CodeError = true)
    (x6_CodeError : PySem.W.subIn K (.ref C_CodeError) (.ref C_CodeError) = some true)
    (x1_InvalidCodebook : PySem.W.excIn K C_InvalidCodebook [.type "ValueError", .type "Exception", .type "BaseException", .type "object"] "ValueError.__new__" = true)
    (x2_InvalidCodebook : PySem.W.keepIn K (.ref C_InvalidCodebook) = true)
    (x3_InvalidCodebook : PySem.W.subIn K (.ref C_InvalidCodebook) (.type "BaseException") = some true)
    (x4_InvalidCodebook : PySem.W.typeIn K (.ref C_InvalidCodebook) = some (.type "type"))
    (x5_InvalidCodebook : PySem.W.isClsIn K C_InvalidCodebook = true)
    (x6_InvalidCodebook : PySem.W.subIn K (.ref C_InvalidCodebook) (.ref C_InvalidCodebook) = some true)
    (x1_UnknownName : PySem.W.excIn K C_UnknownName [.type "ValueError", .type "Exception", .type "BaseException", .type "object"] "ValueError.__new__" = true)
    (x2_UnknownName : PySem.W.keepIn K (.ref C_UnknownName) = true)
    (x3_UnknownName : PySem.W.subIn K (.ref C_UnknownName) (.type "BaseException") = some true)
    (x4_UnknownName : PySem.W.typeIn K (.ref C_UnknownName) = some (.type "type"))
    (x5_UnknownName : PySem.W.isClsIn K C_UnknownName = true)
    (x6_UnknownName : PySem.W.subIn K (.ref C_UnknownName) (.ref C_UnknownName) = some true)
    (e1_Codebook : PySem.W.plainGet K C_Codebook Str.empty = true)
    (e2_Codebook : PySem.W.hasDictIn K C_Codebook = true)
    (e3_Codebook : PySem.W.plainOver K C_Codebook = true)
    (e4_Codebook : PySem.W.findIn K (.ref C_Codebook) "__setattr__" = some (some (.builtin "object.__setattr__")))
    (e5_Codebook : PySem.W.findIn K (.ref C_Codebook) "__class__" = some (some (.builtin "object.__class__")))
    (e6_Codebook : PySem.W.specialIn K (.builtin "object.__class__") "__get__" = some (some (.builtin "getset_descriptor.__get__")))
    (e7_Codebook : PySem.W.takesIn K (.builtin "object.__class__") = some true)
    (e8_Codebook : PySem.W.mroIn K C_Codebook (.type "object") = some true)
    (e9_Codebook : PySem.W.findIn K (.ref C_Codebook) "__ne__" = some (some (.builtin "object.__ne__")))
    (e10_Codebook : PySem.W.isClsIn K C_Codebook = true)
    (e11_Codebook : PySem.W.typeIn K (.ref C_Codebook) = some (.type "type"))
    (nf_Codebook_radix : PySem.W.findIn K (.ref C_Codebook) "radix" = some none)
    (nf_Codebook_depth : PySem.W.findIn K (.ref C_Codebook) "depth" = some none)
    (nf_Codebook_by_name : PySem.W.findIn K (.ref C_Codebook) "by_name" = some none)
    (nf_Codebook_blocked : PySem.W.findIn K (.ref C_Codebook) "blocked" = some none)
    {f0 : Addr} {od0 an0 : Option Addr} {sl0 : Array (Option Value)} {oc0 kV0 dc0 pm0 cd0 ct0 : Value}
    (a0 : PySem.W.nsIn K mainGlobals "_law_pen" = some (some (.ref f0))) (l0 : K.lookup f0 = some ⟨oc0, od0, .func (PySem.W.fnOf "_law_pen" "_law_pen" (defArgs s__law_pen) (defBody s__law_pen) (defScope s__law_pen) .none kV0 dc0 pm0 an0 cd0 ct0), sl0⟩) (c0 : PySem.W.codeIn K cd0 "_law_pen" = true) (k0 : PySem.W.keepIn K (.ref f0) = true)
    {f1 : Addr} {od1 an1 : Option Addr} {sl1 : Array (Option Value)} {oc1 kV1 dc1 pm1 cd1 ct1 : Value}
    (a1 : PySem.W.nsIn K mainGlobals "_law_next" = some (some (.ref f1))) (l1 : K.lookup f1 = some ⟨oc1, od1, .func (PySem.W.fnOf "_law_next" "_law_next" (defArgs s__law_next) (defBody s__law_next) (defScope s__law_next) .none kV1 dc1 pm1 an1 cd1 ct1), sl1⟩) (c1 : PySem.W.codeIn K cd1 "_law_next" = true) (k1 : PySem.W.keepIn K (.ref f1) = true)
    {f2 : Addr} {od2 an2 : Option Addr} {sl2 : Array (Option Value)} {oc2 kV2 dc2 pm2 cd2 ct2 : Value}
    (a2 : PySem.W.nsIn K mainGlobals "_law_draw" = some (some (.ref f2))) (l2 : K.lookup f2 = some ⟨oc2, od2, .func (PySem.W.fnOf "_law_draw" "_law_draw" (defArgs s__law_draw) (defBody s__law_draw) (defScope s__law_draw) .none kV2 dc2 pm2 an2 cd2 ct2), sl2⟩) (c2 : PySem.W.codeIn K cd2 "_law_draw" = true) (k2 : PySem.W.keepIn K (.ref f2) = true)
    {f3 : Addr} {od3 an3 : Option Addr} {sl3 : Array (Option Value)} {oc3 kV3 dc3 pm3 cd3 ct3 : Value}
    (a3 : PySem.W.nsIn K mainGlobals "_law_strings" = some (some (.ref f3))) (l3 : K.lookup f3 = some ⟨oc3, od3, .func (PySem.W.fnOf "_law_strings" "_law_strings" (defArgs s__law_strings) (defBody s__law_strings) (defScope s__law_strings) .none kV3 dc3 pm3 an3 cd3 ct3), sl3⟩) (c3 : PySem.W.codeIn K cd3 "_law_strings" = true) (k3 : PySem.W.keepIn K (.ref f3) = true)
    {f4 : Addr} {od4 an4 : Option Addr} {sl4 : Array (Option Value)} {oc4 kV4 dc4 pm4 cd4 ct4 : Value}
    (a4 : PySem.W.nsIn K mainGlobals "_law_names" = some (some (.ref f4))) (l4 : K.lookup f4 = some ⟨oc4, od4, .func (PySem.W.fnOf "_law_names" "_law_names" (defArgs s__law_names) (defBody s__law_names) (defScope s__law_names) .none kV4 dc4 pm4 an4 cd4 ct4), sl4⟩) (c4 : PySem.W.codeIn K cd4 "_law_names" = true) (k4 : PySem.W.keepIn K (.ref f4) = true)
    {f5 : Addr} {od5 an5 : Option Addr} {sl5 : Array (Option Value)} {oc5 kV5 dc5 pm5 cd5 ct5 : Value}
    (a5 : PySem.W.nsIn K mainGlobals "_law_parts" = some (some (.ref f5))) (l5 : K.lookup f5 = some ⟨oc5, od5, .func (PySem.W.fnOf "_law_parts" "_law_parts" (defArgs s__law_parts) (defBody s__law_parts) (defScope s__law_parts) .none kV5 dc5 pm5 an5 cd5 ct5), sl5⟩) (c5 : PySem.W.codeIn K cd5 "_law_parts" = true) (k5 : PySem.W.keepIn K (.ref f5) = true)
    {f6 : Addr} {od6 an6 : Option Addr} {sl6 : Array (Option Value)} {oc6 kV6 dc6 pm6 cd6 ct6 : Value}
    (a6 : PySem.W.nsIn K mainGlobals "sorted_words" = some (some (.ref f6))) (l6 : K.lookup f6 = some ⟨oc6, od6, .func (PySem.W.fnOf "sorted_words" "sorted_words" (defArgs s_sorted_words) (defBody s_sorted_words) (defScope s_sorted_words) .none kV6 dc6 pm6 an6 cd6 ct6), sl6⟩) (c6 : PySem.W.codeIn K cd6 "sorted_words" = true) (k6 : PySem.W.keepIn K (.ref f6) = true)
    {f7 : Addr} {od7 an7 : Option Addr} {sl7 : Array (Option Value)} {oc7 kV7 dc7 pm7 cd7 ct7 : Value}
    (a7 : PySem.W.nsIn K mainGlobals "prefixes" = some (some (.ref f7))) (l7 : K.lookup f7 = some ⟨oc7, od7, .func (PySem.W.fnOf "prefixes" "prefixes" (defArgs s_prefixes) (defBody s_prefixes) (defScope s_prefixes) .none kV7 dc7 pm7 an7 cd7 ct7), sl7⟩) (c7 : PySem.W.codeIn K cd7 "prefixes" = true) (k7 : PySem.W.keepIn K (.ref f7) = true)
    {f8 : Addr} {od8 an8 : Option Addr} {sl8 : Array (Option Value)} {oc8 kV8 dc8 pm8 cd8 ct8 : Value}
    (a8 : PySem.W.nsIn K mainGlobals "is_prefix_free" = some (some (.ref f8))) (l8 : K.lookup f8 = some ⟨oc8, od8, .func (PySem.W.fnOf "is_prefix_free" "is_prefix_free" (defArgs s_is_prefix_free) (defBody s_is_prefix_free) (defScope s_is_prefix_free) .none kV8 dc8 pm8 an8 cd8 ct8), sl8⟩) (c8 : PySem.W.codeIn K cd8 "is_prefix_free" = true) (k8 : PySem.W.keepIn K (.ref f8) = true)
    {f9 : Addr} {od9 an9 : Option Addr} {sl9 : Array (Option Value)} {oc9 kV9 dc9 pm9 cd9 ct9 : Value}
    (a9 : PySem.W.nsIn K mainGlobals "is_integer" = some (some (.ref f9))) (l9 : K.lookup f9 = some ⟨oc9, od9, .func (PySem.W.fnOf "is_integer" "is_integer" (defArgs s_is_integer) (defBody s_is_integer) (defScope s_is_integer) .none kV9 dc9 pm9 an9 cd9 ct9), sl9⟩) (c9 : PySem.W.codeIn K cd9 "is_integer" = true) (k9 : PySem.W.keepIn K (.ref f9) = true)
    {f10 : Addr} {od10 an10 : Option Addr} {sl10 : Array (Option Value)} {oc10 kV10 dc10 pm10 cd10 ct10 : Value}
    (a10 : PySem.W.nsIn K mainGlobals "is_radix" = some (some (.ref f10))) (l10 : K.lookup f10 = some ⟨oc10, od10, .func (PySem.W.fnOf "is_radix" "is_radix" (defArgs s_is_radix) (defBody s_is_radix) (defScope s_is_radix) .none kV10 dc10 pm10 an10 cd10 ct10), sl10⟩) (c10 : PySem.W.codeIn K cd10 "is_radix" = true) (k10 : PySem.W.keepIn K (.ref f10) = true)
    {f11 : Addr} {od11 an11 : Option Addr} {sl11 : Array (Option Value)} {oc11 kV11 dc11 pm11 cd11 ct11 : Value}
    (a11 : PySem.W.nsIn K mainGlobals "is_depth" = some (some (.ref f11))) (l11 : K.lookup f11 = some ⟨oc11, od11, .func (PySem.W.fnOf "is_depth" "is_depth" (defArgs s_is_depth) (defBody s_is_depth) (defScope s_is_depth) .none kV11 dc11 pm11 an11 cd11 ct11), sl11⟩) (c11 : PySem.W.codeIn K cd11 "is_depth" = true) (k11 : PySem.W.keepIn K (.ref f11) = true)
    {f12 : Addr} {od12 an12 : Option Addr} {sl12 : Array (Option Value)} {oc12 kV12 dc12 pm12 cd12 ct12 : Value}
    (a12 : PySem.W.nsIn K mainGlobals "is_name" = some (some (.ref f12))) (l12 : K.lookup f12 = some ⟨oc12, od12, .func (PySem.W.fnOf "is_name" "is_name" (defArgs s_is_name) (defBody s_is_name) (defScope s_is_name) .none kV12 dc12 pm12 an12 cd12 ct12), sl12⟩) (c12 : PySem.W.codeIn K cd12 "is_name" = true) (k12 : PySem.W.keepIn K (.ref f12) = true)
    {f13 : Addr} {od13 an13 : Option Addr} {sl13 : Array (Option Value)} {oc13 kV13 dc13 pm13 cd13 ct13 : Value}
    (a13 : PySem.W.nsIn K mainGlobals "is_codeword" = some (some (.ref f13))) (l13 : K.lookup f13 = some ⟨oc13, od13, .func (PySem.W.fnOf "is_codeword" "is_codeword" (defArgs s_is_codeword) (defBody s_is_codeword) (defScope s_is_codeword) .none kV13 dc13 pm13 an13 cd13 ct13), sl13⟩) (c13 : PySem.W.codeIn K cd13 "is_codeword" = true) (k13 : PySem.W.keepIn K (.ref f13) = true)
    {f14 : Addr} {od14 an14 : Option Addr} {sl14 : Array (Option Value)} {oc14 kV14 dc14 pm14 cd14 ct14 : Value}
    (a14 : PySem.W.nsIn K mainGlobals "is_words" = some (some (.ref f14))) (l14 : K.lookup f14 = some ⟨oc14, od14, .func (PySem.W.fnOf "is_words" "is_words" (defArgs s_is_words) (defBody s_is_words) (defScope s_is_words) .none kV14 dc14 pm14 an14 cd14 ct14), sl14⟩) (c14 : PySem.W.codeIn K cd14 "is_words" = true) (k14 : PySem.W.keepIn K (.ref f14) = true)
    {f15 : Addr} {od15 an15 : Option Addr} {sl15 : Array (Option Value)} {oc15 kV15 dc15 pm15 cd15 ct15 : Value}
    (a15 : PySem.W.nsIn K mainGlobals "is_codebook" = some (some (.ref f15))) (l15 : K.lookup f15 = some ⟨oc15, od15, .func (PySem.W.fnOf "is_codebook" "is_codebook" (defArgs s_is_codebook) (defBody s_is_codebook) (defScope s_is_codebook) .none kV15 dc15 pm15 an15 cd15 ct15), sl15⟩) (c15 : PySem.W.codeIn K cd15 "is_codebook" = true) (k15 : PySem.W.keepIn K (.ref f15) = true)
    {T16 : Addr} {cT16 : Value} {dT16 : Option Addr} {slT16 : Array (Option Value)} {nT16 : Nat}
    {f16 : Addr} {od16 an16 : Option Addr} {sl16 : Array (Option Value)} {oc16 kV16 dc16 pm16 cd16 ct16 : Value}
    (a16 : PySem.W.findIn K (.ref C_Codebook) "__init__" = some (some (.ref f16))) (i16 : PySem.W.isFn K (.ref f16) = true) (l16 : K.lookup f16 = some ⟨oc16, od16, .func (PySem.W.fnOf "__init__" "Codebook.__init__" (defArgs s_Codebook___init__) (defBody s_Codebook___init__) (defScope s_Codebook___init__) (.ref T16) kV16 dc16 pm16 an16 cd16 ct16), sl16⟩) (c16 : PySem.W.codeIn K cd16 "Codebook.__init__" = true) (k16 : PySem.W.keepIn K (.ref f16) = true)
    (mk16 : PySem.W.makesIn K C_Codebook = true) (kc16 : PySem.W.keepIn K (.ref C_Codebook) = true)
    {E16_0 : Addr}
    (lT16 : K.lookup T16 = some ⟨cT16, dT16, .seq #[.ref E16_0] nT16, slT16⟩)
    {dE16_0 : Option Addr} {nE16_0 : Nat} {slE16_0 : Array (Option Value)} (lE16_0 : K.lookup E16_0 = some ⟨.type "tuple", dE16_0, .seq #[] nE16_0, slE16_0⟩)
    {f17 : Addr} {od17 an17 : Option Addr} {sl17 : Array (Option Value)} {oc17 kV17 dc17 pm17 cd17 ct17 : Value}
    (a17 : PySem.W.findIn K (.ref C_Codebook) "words" = some (some (.ref f17))) (i17 : PySem.W.isFn K (.ref f17) = true) (l17 : K.lookup f17 = some ⟨oc17, od17, .func (PySem.W.fnOf "words" "Codebook.words" (defArgs s_Codebook_words) (defBody s_Codebook_words) (defScope s_Codebook_words) .none kV17 dc17 pm17 an17 cd17 ct17), sl17⟩) (c17 : PySem.W.codeIn K cd17 "Codebook.words" = true) (k17 : PySem.W.keepIn K (.ref f17) = true)
    {f18 : Addr} {od18 an18 : Option Addr} {sl18 : Array (Option Value)} {oc18 kV18 dc18 pm18 cd18 ct18 : Value}
    (a18 : PySem.W.findIn K (.ref C_Codebook) "reserved" = some (some (.ref f18))) (i18 : PySem.W.isFn K (.ref f18) = true) (l18 : K.lookup f18 = some ⟨oc18, od18, .func (PySem.W.fnOf "reserved" "Codebook.reserved" (defArgs s_Codebook_reserved) (defBody s_Codebook_reserved) (defScope s_Codebook_reserved) .none kV18 dc18 pm18 an18 cd18 ct18), sl18⟩) (c18 : PySem.W.codeIn K cd18 "Codebook.reserved" = true) (k18 : PySem.W.keepIn K (.ref f18) = true)
    {f19 : Addr} {od19 an19 : Option Addr} {sl19 : Array (Option Value)} {oc19 kV19 dc19 pm19 cd19 ct19 : Value}
    (a19 : PySem.W.nsIn K mainGlobals "_law_any" = some (some (.ref f19))) (l19 : K.lookup f19 = some ⟨oc19, od19, .func (PySem.W.fnOf "_law_any" "_law_any" (defArgs s__law_any) (defBody s__law_any) (defScope s__law_any) .none kV19 dc19 pm19 an19 cd19 ct19), sl19⟩) (c19 : PySem.W.codeIn K cd19 "_law_any" = true) (k19 : PySem.W.keepIn K (.ref f19) = true)
    {f20 : Addr} {od20 an20 : Option Addr} {sl20 : Array (Option Value)} {oc20 kV20 dc20 pm20 cd20 ct20 : Value}
    (a20 : PySem.W.findIn K (.ref C_Codebook) "__eq__" = some (some (.ref f20))) (i20 : PySem.W.isFn K (.ref f20) = true) (l20 : K.lookup f20 = some ⟨oc20, od20, .func (PySem.W.fnOf "__eq__" "Codebook.__eq__" (defArgs s_Codebook___eq__) (defBody s_Codebook___eq__) (defScope s_Codebook___eq__) .none kV20 dc20 pm20 an20 cd20 ct20), sl20⟩) (c20 : PySem.W.codeIn K cd20 "Codebook.__eq__" = true) (k20 : PySem.W.keepIn K (.ref f20) = true)
    {f21 : Addr} {od21 an21 : Option Addr} {sl21 : Array (Option Value)} {oc21 kV21 dc21 pm21 cd21 ct21 : Value}
    (a21 : PySem.W.nsIn K mainGlobals "law" = some (some (.ref f21))) (l21 : K.lookup f21 = some ⟨oc21, od21, .func (PySem.W.fnOf "law" "law" (defArgs s_law) (defBody s_law) (defScope s_law) .none kV21 dc21 pm21 an21 cd21 ct21), sl21⟩) (c21 : PySem.W.codeIn K cd21 "law" = true) (k21 : PySem.W.keepIn K (.ref f21) = true)
    : ∃ fd : FuncData, (∀ (s : Shared) (v : Value), BindsTo s fd ⟨[v], []⟩ [("script", v)]) ∧ ∀ base : Heap, K.In base → base.Ns mainGlobals mg → FnG l.prog w K mg base 9 fa fd ["script"] (sp_law K) := by
  have e := hfa.symm.trans (PySem.W.mg_of X G a21)
  cases e
  obtain ⟨c, hc⟩ : ∃ c : Adr, c = ⟨C_CodeError, C_InvalidCodebook, C_UnknownName, C_Codebook, E16_0⟩ := ⟨_, rfl⟩
  have T : Txt K mg c := by
    rw [hc]
    exact { b_len := PySem.W.mg_none_of X G z_len, b_isinstance := PySem.W.mg_none_of X G z_isinstance, b_all := PySem.W.mg_none_of X G z_all, b_any := PySem.W.mg_none_of X G z_any, b_str := PySem.W.mg_none_of X G z_str, b_int := PySem.W.mg_none_of X G z_int, b_bool := PySem.W.mg_none_of X G z_bool, b_list := PySem.W.mg_none_of X G z_list, b_tuple := PySem.W.mg_none_of X G z_tuple, b_dict := PySem.W.mg_none_of X G z_dict, b_range := PySem.W.mg_none_of X G z_range, b_sorted := PySem.W.mg_none_of X G z_sorted, b_sum := PySem.W.mg_none_of X G z_sum, b_min := PySem.W.mg_none_of X G z_min, b_max := PySem.W.mg_none_of X G z_max, b_repr := PySem.W.mg_none_of X G z_repr, b_enumerate := PySem.W.mg_none_of X G z_enumerate, b_zip := PySem.W.mg_none_of X G z_zip, b_set := PySem.W.mg_none_of X G z_set, gLETTERS := ⟨_, PySem.W.mg_of X G y_gLETTERS⟩, gDIGITS := ⟨_, PySem.W.mg_of X G y_gDIGITS⟩, gMAX_NAME := ⟨_, PySem.W.mg_of X G y_gMAX_NAME⟩, x_CodeError := ⟨PySem.W.mg_of X G aC_CodeError, x1_CodeError, x2_CodeError, x3_CodeError, x4_CodeError, x5_CodeError, x6_CodeError⟩, x_InvalidCodebook := ⟨PySem.W.mg_of X G aC_InvalidCodebook, x1_InvalidCodebook, x2_InvalidCodebook, x3_InvalidCodebook, x4_InvalidCodebook, x5_InvalidCodebook, x6_InvalidCodebook⟩, x_UnknownName := ⟨PySem.W.mg_of X G aC_UnknownName, x1_UnknownName, x2_UnknownName, x3_UnknownName, x4_UnknownName, x5_UnknownName, x6_UnknownName⟩, k_Codebook := ⟨PySem.W.mg_of X G aC_Codebook, ⟨e1_Codebook, e2_Codebook, e3_Codebook, e4_Codebook⟩, e5_Codebook, e6_Codebook, e7_Codebook, e8_Codebook, e9_Codebook, e10_Codebook, e11_Codebook⟩, n_Codebook_radix := nf_Codebook_radix, n_Codebook_depth := nf_Codebook_depth, n_Codebook_by_name := nf_Codebook_by_name, n_Codebook_blocked := nf_Codebook_blocked, d0_Codebook := sqT_nil lE16_0 }
  have q_CodeError : c.CodeError = C_CodeError := by rw [hc]
  have q_InvalidCodebook : c.InvalidCodebook = C_InvalidCodebook := by rw [hc]
  have q_UnknownName : c.UnknownName = C_UnknownName := by rw [hc]
  have q_Codebook : c.Codebook = C_Codebook := by rw [hc]
  have q_d0_Codebook : c.d0_Codebook = E16_0 := by rw [hc]
  skip
  refine ⟨_, fun s v => .of_eq rfl, fun base _ _ => DefG.at ?_ hfa l21⟩
  have D__law_pen : DefOk l.prog w K mg base 1 "_law_pen" ["script"] (sp_pen K) := ok__law_pen T (at_mk X G a0 l0 c0 k0)
  have D__law_next : DefOk l.prog w K mg base 1 "_law_next" ["pen"] sp_next := ok__law_next T (at_mk X G a1 l1 c1 k1)
  have D__law_draw : DefOk l.prog w K mg base 2 "_law_draw" ["pen", "below"] sp_draw := ok__law_draw T (at_mk X G a2 l2 c2 k2) D__law_next
  have D__law_strings : DefOk l.prog w K mg base 3 "_law_strings" ["pen", "radix", "depth", "tally"] sp_strings := ok__law_strings T (at_mk X G a3 l3 c3 k3) D__law_draw
  have D__law_names : DefOk l.prog w K mg base 3 "_law_names" ["pen", "tally"] sp_names := ok__law_names T (at_mk X G a4 l4 c4 k4) D__law_draw
  have D__law_parts : DefOk l.prog w K mg base 4 "_law_parts" ["pen", "most"] sp_parts := ok__law_parts T (at_mk X G a5 l5 c5 k5) D__law_strings D__law_names D__law_draw
  have D_sorted_words : DefOk l.prog w K mg base 1 "sorted_words" ["words"] sp_sorted_words := ok_sorted_words T (at_mk X G a6 l6 c6 k6)
  have D_prefixes : DefOk l.prog w K mg base 1 "prefixes" ["string"] sp_prefixes := ok_prefixes T (at_mk X G a7 l7 c7 k7)
  have D_is_prefix_free : DefOk l.prog w K mg base 2 "is_prefix_free" ["strings"] (sp_is_prefix_free K) := ok_is_prefix_free T (at_mk X G a8 l8 c8 k8) D_prefixes
  have D_is_integer : DefOk l.prog w K mg base 1 "is_integer" ["thing", "low", "high"] sp_is_integer := ok_is_integer T (at_mk X G a9 l9 c9 k9)
  have D_is_radix : DefOk l.prog w K mg base 2 "is_radix" ["thing"] sp_is_radix := ok_is_radix T (at_mk X G a10 l10 c10 k10) D_is_integer
  have D_is_depth : DefOk l.prog w K mg base 2 "is_depth" ["thing"] sp_is_depth := ok_is_depth T (at_mk X G a11 l11 c11 k11) D_is_integer
  have D_is_name : DefOk l.prog w K mg base 1 "is_name" ["thing"] sp_is_name := ok_is_name T (at_mk X G a12 l12 c12 k12)
  have D_is_codeword : DefOk l.prog w K mg base 1 "is_codeword" ["radix", "depth", "thing"] sp_is_codeword := ok_is_codeword T (at_mk X G a13 l13 c13 k13)
  have D_is_words : DefOk l.prog w K mg base 2 "is_words" ["radix", "depth", "thing"] sp_is_words := ok_is_words T (at_mk X G a14 l14 c14 k14) D_is_name D_is_codeword
  have D_is_codebook : DefOk l.prog w K mg base 3 "is_codebook" ["radix", "depth", "words", "reserved"] (sp_is_codebook K) := ok_is_codebook T (at_mk X G a15 l15 c15 k15) D_is_prefix_free D_is_radix D_is_depth D_is_words D_is_codeword
  have D_Codebook___init__ : InitOk l.prog w K mg base 4 "Codebook" c.Codebook "Codebook.__init__" s_Codebook___init__ ["self", "radix", "depth", "words", "reserved"] (sp_init K c) [.ref c.d0_Codebook] := ok_Codebook___init__ T (by rw [q_Codebook, q_d0_Codebook]; exact atI_mkD (PySem.W.mg_of X G aC_Codebook) mk16 kc16 a16 i16 l16 c16 k16 lT16 (by simp) (.cons rfl (.nil))) D_sorted_words D_is_codebook
  have D_Codebook_words : MethOk l.prog w K mg base 1 c.Codebook "words" ["self"] (sp_words c) := ok_Codebook_words T (by rw [q_Codebook]; exact atM_mk a17 i17 l17 c17 k17)
  have D_Codebook_reserved : MethOk l.prog w K mg base 1 c.Codebook "reserved" ["self"] (sp_reserved c) := ok_Codebook_reserved T (by rw [q_Codebook]; exact atM_mk a18 i18 l18 c18 k18)
  have D__law_any : DefOk l.prog w K mg base 6 "_law_any" ["pen", "levels"] (sp_any 3) := ok__law_any T (at_mk X G a19 l19 c19 k19) D__law_draw 3
  have D_Codebook___eq__ : MethOk l.prog w K mg base 1 c.Codebook "__eq__" ["self", "other"] (sp_bookeq c) := ok_Codebook___eq__ T (by rw [q_Codebook]; exact atM_mk a20 i20 l20 c20 k20) D_Codebook___init__
  have D_law : DefG l.prog w K mg base 9 "law" ["script"] (sp_law K) := ok_law T (at_mk X G a21 l21 c21 k21) D__law_pen D__law_parts D_Codebook___init__ D_Codebook_words D_Codebook_reserved D__law_any D_Codebook___eq__
  exact D_law
end Kc

open PySem PySem.W PyProof.Rows in
set_option maxRecDepth 100000 in
set_option maxHeartbeats 0 in
theorem PySem.Challenge.cw_keptcode_k05_equal_codebooks_holds : PySem.Challenge.rw_keptcode_k05_equal_codebooks.Holds := by
  w_on; o_law; k_head; (case hw => w_witness2)
  k_fill
  refine Kc.walk_lawG (l := PySem.Challenge.rw_keptcode_k05_equal_codebooks) 9 Kc.sp_law rfl rfl ⟨rfl, by decide, by decide⟩ (fun w h Y => PySem.W.kIn_of Y) (fun _ _ a ns hl hS => ⟨a, ns, rfl, hS, hl, fun _ => rfl⟩) ?F
  case F =>
    intro w mg fa h KX G hmg
    refine' Kc.all_mk KX G hmg ?z_len ?z_isinstance ?z_all ?z_any ?z_str ?z_int ?z_bool ?z_list ?z_tuple ?z_dict ?z_range ?z_sorted ?z_sum ?z_min ?z_max ?z_repr ?z_enumerate ?z_zip ?z_set ?y_gLETTERS ?y_gDIGITS ?y_gMAX_NAME ?aC_CodeError ?aC_InvalidCodebook ?aC_UnknownName ?aC_Codebook ?x1_CodeError ?x2_CodeError ?x3_CodeError ?x4_CodeError ?x5_CodeError ?x6_CodeError ?x1_InvalidCodebook ?x2_InvalidCodebook ?x3_InvalidCodebook ?x4_InvalidCodebook ?x5_InvalidCodebook ?x6_InvalidCodebook ?x1_UnknownName ?x2_UnknownName ?x3_UnknownName ?x4_UnknownName ?x5_UnknownName ?x6_UnknownName ?e1_Codebook ?e2_Codebook ?e3_Codebook ?e4_Codebook ?e5_Codebook ?e6_Codebook ?e7_Codebook ?e8_Codebook ?e9_Codebook ?e10_Codebook ?e11_Codebook ?nf_Codebook_radix ?nf_Codebook_depth ?nf_Codebook_by_name ?nf_Codebook_blocked ?a0 ?l0 ?c0 ?k0 ?a1 ?l1 ?c1 ?k1 ?a2 ?l2 ?c2 ?k2 ?a3 ?l3 ?c3 ?k3 ?a4 ?l4 ?c4 ?k4 ?a5 ?l5 ?c5 ?k5 ?a6 ?l6 ?c6 ?k6 ?a7 ?l7 ?c7 ?k7 ?a8 ?l8 ?c8 ?k8 ?a9 ?l9 ?c9 ?k9 ?a10 ?l10 ?c10 ?k10 ?a11 ?l11 ?c11 ?k11 ?a12 ?l12 ?c12 ?k12 ?a13 ?l13 ?c13 ?k13 ?a14 ?l14 ?c14 ?k14 ?a15 ?l15 ?c15 ?k15 ?a16 ?i16 ?l16 ?c16 ?k16 ?mk16 ?kc16 ?lT16 ?lE16_0 ?a17 ?i17 ?l17 ?c17 ?k17 ?a18 ?i18 ?l18 ?c18 ?k18 ?a19 ?l19 ?c19 ?k19 ?a20 ?i20 ?l20 ?c20 ?k20 ?a21 ?l21 ?c21 ?k21
    (case z_len => k_is)
    (case z_isinstance => k_is)
    (case z_all => k_is)
    (case z_any => k_is)
    (case z_str => k_is)
    (case z_int => k_is)
    (case z_bool => k_is)
    (case z_list => k_is)
    (case z_tuple => k_is)
    (case z_dict => k_is)
    (case z_range => k_is)
    (case z_sorted => k_is)
    (case z_sum => k_is)
    (case z_min => k_is)
    (case z_max => k_is)
    (case z_repr => k_is)
    (case z_enumerate => k_is)
    (case z_zip => k_is)
    (case z_set => k_is)
    (case y_gLETTERS => k_is)
    (case y_gDIGITS => k_is)
    (case y_gMAX_NAME => k_is)
    (case aC_CodeError => k_is)
    (case aC_InvalidCodebook => k_is)
    (case aC_UnknownName => k_is)
    (case aC_Codebook => k_is)
    (case x1_CodeError => k_exc)
    (case x2_CodeError => k_is)
    (case x3_CodeError => k_is)
    (case x4_CodeError => k_is)
    (case x5_CodeError => k_is)
    (case x6_CodeError => first | rfl | k_is)
    (case x1_InvalidCodebook => k_exc)
    (case x2_InvalidCodebook => k_is)
    (case x3_InvalidCodebook => k_is)
    (case x4_InvalidCodebook => k_is)
    (case x5_InvalidCodebook => k_is)
    (case x6_InvalidCodebook => first | rfl | k_is)
    (case x1_UnknownName => k_exc)
    (case x2_UnknownName => k_is)
    (case x3_UnknownName => k_is)
    (case x4_UnknownName => k_is)
    (case x5_UnknownName => k_is)
    (case x6_UnknownName => first | rfl | k_is)
    (case e1_Codebook => k_is)
    (case e2_Codebook => k_is)
    (case e3_Codebook => k_is)
    (case e4_Codebook => k_is)
    (case e5_Codebook => k_is)
    (case e6_Codebook => k_is)
    (case e7_Codebook => k_is)
    (case e8_Codebook => k_is)
    (case e9_Codebook => k_is)
    (case e10_Codebook => k_is)
    (case e11_Codebook => k_is)
    (case nf_Codebook_radix => k_is)
    (case nf_Codebook_depth => k_is)
    (case nf_Codebook_by_name => k_is)
    (case nf_Codebook_blocked => k_is)
    (case a0 => k_is)
    (case l0 => k_is)
    (case c0 => k_is)
    (case k0 => k_is)
    (case a1 => k_is)
    (case l1 => k_is)
    (case c1 => k_is)
    (case k1 => k_is)
    (case a2 => k_is)
    (case l2 => k_is)
    (case c2 => k_is)
    (case k2 => k_is)
    (case a3 => k_is)
    (case l3 => k_is)
    (case c3 => k_is)
    (case k3 => k_is)
    (case a4 => k_is)
    (case l4 => k_is)
    (case c4 => k_is)
    (case k4 => k_is)
    (case a5 => k_is)
    (case l5 => k_is)
    (case c5 => k_is)
    (case k5 => k_is)
    (case a6 => k_is)
    (case l6 => k_is)
    (case c6 => k_is)
    (case k6 => k_is)
    (case a7 => k_is)
    (case l7 => k_is)
    (case c7 => k_is)
    (case k7 => k_is)
    (case a8 => k_is)
    (case l8 => k_is)
    (case c8 => k_is)
    (case k8 => k_is)
    (case a9 => k_is)
    (case l9 => k_is)
    (case c9 => k_is)
    (case k9 => k_is)
    (case a10 => k_is)
    (case l10 => k_is)
    (case c10 => k_is)
    (case k10 => k_is)
    (case a11 => k_is)
    (case l11 => k_is)
    (case c11 => k_is)
    (case k11 => k_is)
    (case a12 => k_is)
    (case l12 => k_is)
    (case c12 => k_is)
    (case k12 => k_is)
    (case a13 => k_is)
    (case l13 => k_is)
    (case c13 => k_is)
    (case k13 => k_is)
    (case a14 => k_is)
    (case l14 => k_is)
    (case c14 => k_is)
    (case k14 => k_is)
    (case a15 => k_is)
    (case l15 => k_is)
    (case c15 => k_is)
    (case k15 => k_is)
    (case a16 => k_is)
    (case i16 => k_is)
    (case l16 => k_is)
    (case c16 => k_is)
    (case k16 => k_is)
    (case mk16 => k_is)
    (case kc16 => k_is)
    (case lT16 => k_is)
    (case lE16_0 => k_is)
    (case a17 => k_is)
    (case i17 => k_is)
    (case l17 => k_is)
    (case c17 => k_is)
    (case k17 => k_is)
    (case a18 => k_is)
    (case i18 => k_is)
    (case l18 => k_is)
    (case c18 => k_is)
    (case k18 => k_is)
    (case a19 => k_is)
    (case l19 => k_is)
    (case c19 => k_is)
    (case k19 => k_is)
    (case a20 => k_is)
    (case i20 => k_is)
    (case l20 => k_is)
    (case c20 => k_is)
    (case k20 => k_is)
    (case a21 => k_is)
    (case l21 => k_is)
    (case c21 => k_is)
    (case k21 => k_is)
