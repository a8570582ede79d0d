import PyProof.Rows.All
import Wide.All
import OpenK.AllK
import Wide.FinOn
import KE.KStateDown
import HandS.ForMost
import HandS.Exc
import HandS.TryOnly
import HandS.TryMany
import HandS.ExcOwn
import HandS.Defaults
import HandS.WordsExc
import HandS.HotCalls
import HandS.HeadHook2
import HandS.TupMul
import HandS.TupAny
import HandS.Wide
import HandS.Deep
import HandS.Walk
import HandS.ExcIs
import HandS.IsInst
import Lean
import HandS.Head0
import HandS.Head1
import HandS.Head2
import HandS.HeadEnd
import HandS.HeadHook1
import HandS.HeadHook3
import HandS.HeadHook4
import HandS.EndTab
import HandS.HeadWalk
import HandS.More
import PyProof.StrOps2
import HandS.Codes
import PyProof.StrLawsChain
import PyProof.StrLawsIn
import PySem.Challenge.RW_stillpoint_k12_paths
set_option Elab.async false
set_option linter.all false
set_option maxRecDepth 100000
set_option maxHeartbeats 4000000
/-! Own rules over the layer: calls whose raise is wished at the slots; constants of the module. -/
namespace SP
open PySem PySem.Spec PyProof.Rows L2

/-! ### calls by a wish W -/
section
variable {X : Cx} {k : Nat} {f C : Addr} {fd : FuncData} {ps : List Str} {sp : Sp} {W : WX} {x m : Str} {p pos apos : Pos} {e o : Expr} {es : List Expr} {ta : TE} {t : TA}
abbrev OkX (X : Cx) (k : Nat) (f : Addr) (fd : FuncData) (ps : List Str) (sp : Sp) : Prop := FnOk X.prog X.w X.K X.mg X.base (L2.CX X.prog X.w) k f fd ps sp
def tCallW (sp : Sp) (W : WX) (t : TA) : TE := fun σ H Q => t σ H fun vs H1 => sp vs H1 Q fun c d H2 => W c d σ H2
theorem pe_callW (F : OkX X k f fd ps sp) (hr : Room k X.A) (hm : X.mg x = some (.ref f)) (hk : PySem.W.keepIn X.K (.ref f) = true) (hb : Binds X.K fd ps []) (tk : Takes X W)
    (ha : PA X (e :: es) t) (hg : Gl X x := by rfl) (hdb : (x == ("__debug__" : Str)) = false := by decide) (he : starEach (e :: es) X.env = (false, eval e X.env) :: starEach es X.env := by rfl) (hpl : (backTo pos (starEach es X.env)).any (·.1) = false := by rfl) :
    PE X (.Call (.Name x p) (e :: es) [] pos) (tCallW sp W t) := pe_callS F hr hg hm hk hb (fun σ => passAt tk σ) ha hdb he hpl
theorem pe_callW0 (F : OkX X k f fd ps sp) (hr : Room k X.A) (hm : X.mg x = some (.ref f)) (hk : PySem.W.keepIn X.K (.ref f) = true) (hb : Binds X.K fd ps []) (tk : Takes X W)
    (hg : Gl X x := by rfl) (hdb : (x == ("__debug__" : Str)) = false := by decide) :
    PE X (.Call (.Name x p) [] [] pos) (tCallW sp W tNil) := by
  refine ⟨fun pins s σ H Q I h => ?_⟩
  refine wpAny_Call_Name_kw (ld_glob I hg hm ?_ hdb)
  exact PySem.W.callWith_K0 I.kIn hk (run_fnS (us := []) F hr hb (passAt tk σ) I .nil h)
def tMethW (C : Addr) (m : Str) (sp : Sp) (W : WX) (ta : TE) (t : TA) : TE := fun σ H Q => ta σ H fun x H1 => ∃ a dx fs, x = .ref a ∧ H1 a = some (.ins C dx fs) ∧ fs.lookup m = none ∧ t σ H1 fun vs H2 => sp (x :: vs) H2 Q fun c d H3 => W c d σ H3
theorem pe_methW {pl : Sem Bool} (he : PE X o ta) (c : Cls X.K C) (hm : Meth X.K C m f) (F : OkX X k f fd ps sp) (hr : Room k X.A) (hb : Binds X.K fd ps []) (tk : Takes X W) (ha : PA X (e :: es) t)
    (hst : starEach (e :: es) X.env = (false, eval e X.env) :: starEach es X.env := by rfl) (hpl : (backTo pos (starEach es X.env)).any (·.1) = false := by rfl)
    (ht : eval (.Call (.Attribute o m apos) (e :: es) [] pos) X.env = (do
      let ov ← eval o X.env
      standAt apos.atName
      let (f, first) ← holding [ov] (getMethod ov m pl)
      callWith pos f first (backTo pos (starEach (e :: es) X.env)) (backToKw pos (keywordEach [] X.env))) := by rfl) :
    PE X (.Call (.Attribute o m apos) (e :: es) [] pos) (tMethW C m sp W ta t) := by
  refine ⟨fun pins s σ H Q I h => ?_⟩
  refine PySem.W.methodCall_KW (pl := pl) (thn (he.run pins s σ H _ I h) fun u s1 ⟨x, H1, I1, rx, a, dx, fs, ex, ea, l, q⟩ => ?_) ht
  subst ex
  obtain rfl : u = Value.ref a := rx
  refine getmeth_ok I1 ea c hm l ?_
  refine PySem.W.callWith_K (first := [.ref a]) (h₀ := X.base) I.ok.mod.kin hm.kp (thn (ha.run pos pins s1 σ H1 _ I1 q) fun us s2 ⟨vs, H2, I2, r, q2⟩ => ⟨I2.kIn, ?_⟩) hst hpl
  exact run_fnS (us := .ref a :: us) (vs := .ref a :: vs) F hr hb (passAt tk σ) I2 (.cons rfl r) q2
theorem pe_methW0 {pl : Sem Bool} (he : PE X o ta) (c : Cls X.K C) (hm : Meth X.K C m f) (F : OkX X k f fd ps sp) (hr : Room k X.A) (hb : Binds X.K fd ps []) (tk : Takes X W)
    (ht : eval (.Call (.Attribute o m apos) [] [] pos) X.env = (do
      let ov ← eval o X.env
      standAt apos.atName
      let (f, first) ← holding [ov] (getMethod ov m pl)
      callWith pos f first (backTo pos (starEach [] X.env)) (backToKw pos (keywordEach [] X.env))) := by rfl) :
    PE X (.Call (.Attribute o m apos) [] [] pos) (tMethW C m sp W ta tNil) := by
  refine ⟨fun pins s σ H Q I h => ?_⟩
  refine PySem.W.methodCall_KW (pl := pl) (thn (he.run pins s σ H _ I h) fun u s1 ⟨x, H1, I1, rx, a, dx, fs, ex, ea, l, q⟩ => ?_) ht
  subst ex
  obtain rfl : u = Value.ref a := rx
  refine getmeth_ok I1 ea c hm l ?_
  exact PySem.W.callWith_K0 (first := [.ref a]) I1.kIn hm.kp (run_fnS (us := [.ref a]) (vs := [.ref a]) F hr hb (passAt tk σ) I1 (.cons rfl .nil) q)
/-- a new instance's promise: __init__'s at the fresh x -/
def tMakeW (C : Addr) (sp : Sp) (W : WX) (t : TA) : TE := fun σ H Q => t σ H fun vs H1 => ∀ x dx, H1 x = none → H1 dx = none → dx ≠ x →
  sp (.ref x :: vs) (upd (upd H1 dx (.own x)) x (.ins C dx [])) (fun v H2 => v = .non ∧ Q (.ref x) H2) fun c d H2 => W c d σ H2
theorem run_makeW {pins : List (Addr × Obj)} {σ : L2.St} {H : Hp} {s : Shared} {Q : VK} {us : List Value} {vs : List V} (M : Mk X.K C f) (F : OkX X k f fd ps sp) (hr : Room (k + 1) X.A) (hb : Binds X.K fd ps [])
    (tk : Takes X W) (I : Inv X pins σ H s) (r : Vals vs us)
    (h : ∀ x dx, H x = none → H dx = none → dx ≠ x → sp (.ref x :: vs) (upd (upd H dx (.own x)) x (.ins C dx [])) (fun v H2 => v = .non ∧ Q (.ref x) H2) fun c d H2 => W c d σ H2) :
    wpAny (model X.prog X.w) X.A (call (.ref C) us) (EP X pins σ Q) X.xe s := by
  have hq := h (s.heap.objs.size + 1) s.heap.objs.size (I.hok.fresh (Nat.le_succ _)) (I.hok.fresh (Nat.le_refl _)) (Nat.ne_of_lt (Nat.lt_succ_self _))
  have I2 := Inv.made (C := C) I
  have r2 : Vals (V.ref (s.heap.objs.size + 1) :: vs) (Value.ref (s.heap.objs.size + 1) :: us) := .cons rfl r
  have hl : (Value.ref (s.heap.objs.size + 1) :: us).length = ps.length := by
    have e := r2.length
    rw [F.len _ _ _ _ hq] at e
    exact e.symm
  have b := hb { s with heap := (s.heap.push (PySem.W.instObj C s.heap.objs.size)) } (Value.ref (s.heap.objs.size + 1) :: us)
  refine wpAny_call (make_map (f := f) I.kIn M.makes M.init (beq_iff_eq.mp M.fn) (codeAny_mono (F.run _ X.stack _ _ ⟨Value.ref (s.heap.objs.size + 1) :: us, []⟩ (Value.ref (s.heap.objs.size + 1) :: us) _ _ (fun c d H2 => W c d σ H2) (hr.make C us [])
    (I2.env0.make C us []) (by have z := hb _ (Value.ref (s.heap.objs.size + 1) :: us) I2.kIn (by rw [List.append_nil]; exact hl); rw [List.append_nil] at z; exact z) r2 hq) fun r s' hq' => ?_))
  cases r with
  | error e => exact passAt tk σ pins _ _ e s' I2 hq'
  | ok fl =>
    cases fl with
    | ret u =>
      obtain ⟨v, H', I3, rv, ev, q3⟩ := I2.after hq'
      subst ev
      exact ⟨rv, ⟨V.ref (s.heap.objs.size + 1), H', I3, rfl, q3⟩⟩
    | next => exact False.elim hq'
    | brk => exact False.elim hq'
    | cont => exact False.elim hq'
theorem pe_makeW (M : Mk X.K C f) (F : OkX X k f fd ps sp) (hr : Room (k + 1) X.A) (hm : X.mg x = some (.ref C)) (hb : Binds X.K fd ps []) (tk : Takes X W)
    (ha : PA X (e :: es) t) (hg : Gl X x := by rfl) (hdb : (x == ("__debug__" : Str)) = false := by decide) (he : starEach (e :: es) X.env = (false, eval e X.env) :: starEach es X.env := by rfl) (hpl : (backTo pos (starEach es X.env)).any (·.1) = false := by rfl) :
    PE X (.Call (.Name x p) (e :: es) [] pos) (tMakeW C sp W t) := by
  refine ⟨fun pins s σ H Q I h => ?_⟩
  refine wpAny_Call_Name_kw (ld_glob I hg hm ?_ hdb)
  refine PySem.W.callWith_K (h₀ := X.base) I.ok.mod.kin M.kp (thn (ha.run pos pins s σ H _ I h) fun us s1 ⟨vs, H1, I1, r, q⟩ => ⟨I1.kIn, ?_⟩) he hpl
  exact run_makeW M F hr hb tk I1 r q
end
/-! ### constants of the module -/
section
variable {X : Cx} {x : Str} {pos : Pos}
theorem pe_gint {n : Int} (hm : ∃ t, X.mg x = some (.int n t)) (hg : Gl X x := by rfl) (hd : (x == ("__debug__" : Str)) = false := by decide) : PE X (.Name x pos) (tC (.int n)) :=
  let ⟨t, h⟩ := hm
  pe_glob hg h ⟨t, rfl⟩ hd
theorem pe_gstr {z : Str} (hm : ∃ t, X.mg x = some (.str z t)) (hg : Gl X x := by rfl) (hd : (x == ("__debug__" : Str)) = false := by decide) : PE X (.Name x pos) (tC (.str z)) :=
  let ⟨t, h⟩ := hm
  pe_glob hg h ⟨t, rfl⟩ hd
theorem pe_gref {a : Addr} (hm : X.mg x = some (.ref a)) (hg : Gl X x := by rfl) (hd : (x == ("__debug__" : Str)) = false := by decide) : PE X (.Name x pos) (tC (.ref a)) :=
  pe_glob hg hm rfl hd
end
/-! ### raising -/
def tRaiseW (W : WX) (c : Addr) : TS := fun _ σ H => W (.ref c) none σ H
structure ExcX (K : PySem.W.Frag) (mg : Str → Option Value) (x : Str) : Prop where
  g : mg x = some (.ref (He.ga K x))
  xx : PySem.W.excIn K (He.ga K x) He.veBase "ValueError.__new__" = true
  k : PySem.W.keepIn K (.ref (He.ga K x)) = true
  s : PySem.W.subIn K (.ref (He.ga K x)) (.type "BaseException") = some true
  t : PySem.W.typeIn K (.ref (He.ga K x)) = some (.type "type")
theorem ps_raiseW {X : Cx} {W : WX} {x m : Str} {j : Nat} {p p2 pos pos2 : Pos} (hc : X.calm = true) (tk : Takes X W) (E : ExcX X.K X.mg x) (hg : Gl X x := by rfl) (hd : (x == ("__debug__" : Str)) = false := by decide) :
    PS X (.Raise (some (.Call (.Name x p) [.Constant (.str m) j p2] [] pos)) none pos2) (tRaiseW W (He.ga X.K x)) :=
  ps_raise hc tk (pmk_own PySem.F.excBase_ValueError E.xx E.g E.k (raises_own E.s E.t) hg (hdb := hd))
end SP

set_option Elab.async false
set_option linter.all false
set_option maxRecDepth 100000
set_option maxHeartbeats 4000000
/-! Plain data, heaps cut and extended, what stands in a heap. -/
namespace SP
open PySem PySem.Spec PyProof.Rows L2

/-! ### tables: lists of pairs, as dicts keep them -/
section
variable {κ β : Type} [DecidableEq κ]
def lk (l : List (κ × β)) (k : κ) : Option β := (l.find? fun kv => decide (kv.1 = k)).map (·.2)
def pt (l : List (κ × β)) (k : κ) (v : β) : List (κ × β) :=
  if (l.any fun kv => decide (kv.1 = k)) = true then l.map (fun kv => if kv.1 = k then (kv.1, v) else kv) else l ++ [(k, v)]
def dp (l : List (κ × β)) (k : κ) : List (κ × β) := l.filter fun kv => decide (kv.1 ≠ k)
theorem lk_nil (k : κ) : lk ([] : List (κ × β)) k = none := rfl
theorem lk_cons (a : κ) (b : β) (l : List (κ × β)) (k : κ) : lk ((a, b) :: l) k = if a = k then some b else lk l k := by
  unfold lk
  rw [List.find?_cons]
  by_cases h : a = k <;> simp [h]
theorem lk_any (k : κ) : ∀ l : List (κ × β), (l.any fun kv => decide (kv.1 = k)) = (lk l k).isSome
  | [] => rfl
  | (a, b) :: r => by
    rw [List.any_cons, lk_cons, lk_any k r]
    by_cases h : a = k <;> simp [h]
theorem lk_mem {k : κ} {v : β} : ∀ {l : List (κ × β)}, lk l k = some v → (k, v) ∈ l
  | [], h => by cases h
  | (a, b) :: r, h => by
    rw [lk_cons] at h
    by_cases e : a = k
    · rw [if_pos e] at h
      cases h
      subst e
      exact List.mem_cons_self
    · rw [if_neg e] at h
      exact List.mem_cons_of_mem _ (lk_mem h)
theorem lk_none {k : κ} : ∀ {l : List (κ × β)}, lk l k = none ↔ k ∉ l.map (·.1)
  | [] => by simp [lk_nil]
  | (a, b) :: r => by
    rw [lk_cons]
    by_cases e : a = k
    · simp [e]
    · rw [if_neg e, lk_none (l := r)]
      simp only [List.map_cons, List.mem_cons, not_or]
      exact ⟨fun h => ⟨fun z => e z.symm, h⟩, fun h => h.2⟩
theorem lk_of_mem {k : κ} {v : β} : ∀ {l : List (κ × β)}, (l.map (·.1)).Nodup → (k, v) ∈ l → lk l k = some v
  | [], _, h => by cases h
  | (a, b) :: r, nd, h => by
    rw [lk_cons]
    rw [List.map_cons, List.nodup_cons] at nd
    rcases List.mem_cons.mp h with e | e
    · cases e
      exact if_pos rfl
    · have hk : k ∈ r.map (·.1) := List.mem_map.mpr ⟨_, e, rfl⟩
      rw [if_neg (fun z => nd.1 (by rw [z]; exact hk))]
      exact lk_of_mem nd.2 e
theorem pt_new {l : List (κ × β)} {k : κ} (v : β) (h : lk l k = none) : pt l k v = l ++ [(k, v)] := by
  unfold pt
  rw [lk_any, h]
  exact if_neg Bool.false_ne_true
theorem pt_old {l : List (κ × β)} {k : κ} {u : β} (v : β) (h : lk l k = some u) : pt l k v = l.map (fun kv => if kv.1 = k then (kv.1, v) else kv) := by
  unfold pt
  rw [lk_any, h]
  exact if_pos rfl
theorem lk_map (k j : κ) (y : β) : ∀ l : List (κ × β), lk (l.map fun kv => if kv.1 = k then (kv.1, y) else kv) j = (lk l j).map fun x => if j = k then y else x
  | [] => rfl
  | (a, b) :: r => by
    have ih := lk_map k j y r
    rw [List.map_cons]
    by_cases e : a = k
    · rw [if_pos e, lk_cons, lk_cons, ih]
      by_cases e2 : a = j
      · rw [if_pos e2, if_pos e2, Option.map_some, if_pos (e2.symm.trans e)]
      · rw [if_neg e2, if_neg e2]
    · rw [if_neg e, lk_cons, lk_cons, ih]
      by_cases e2 : a = j
      · rw [if_pos e2, if_pos e2, Option.map_some, if_neg (fun z => e (e2.trans z))]
      · rw [if_neg e2, if_neg e2]
theorem lk_snoc (l : List (κ × β)) (k j : κ) (y : β) : lk (l ++ [(k, y)]) j = (lk l j).or (if k = j then some y else none) := by
  induction l with
  | nil => rw [List.nil_append, lk_cons, lk_nil]; simp [lk_nil]
  | cons p r ih =>
    obtain ⟨a, b⟩ := p
    rw [List.cons_append, lk_cons, lk_cons, ih]
    by_cases e : a = j <;> simp [e]
theorem lk_pt (l : List (κ × β)) (k j : κ) (y : β) : lk (pt l k y) j = if j = k then some y else lk l j := by
  cases h : lk l k with
  | none =>
    rw [pt_new y h, lk_snoc]
    by_cases e : j = k
    · subst e
      simp [h]
    · have e2 : ¬ k = j := fun z => e z.symm
      simp [e, e2]
  | some u =>
    rw [pt_old y h, lk_map]
    by_cases e : j = k
    · subst e
      simp [h]
    · simp only [e, if_false]
      cases lk l j <;> rfl
theorem lk_dp (l : List (κ × β)) (k j : κ) : lk (dp l k) j = if j = k then none else lk l j := by
  induction l with
  | nil => simp [dp, lk_nil]
  | cons p r ih =>
    obtain ⟨a, b⟩ := p
    unfold dp at ih ⊢
    rw [List.filter_cons]
    by_cases e : a = k
    · subst e
      have z : decide ((a, b).1 ≠ a) = false := by simp
      rw [if_neg (by rw [z]; decide), ih, lk_cons]
      by_cases e2 : j = a
      · simp [e2]
      · have e3 : ¬ a = j := fun z => e2 z.symm
        simp [e2, e3]
    · have z : decide ((a, b).1 ≠ k) = true := by simp [e]
      rw [if_pos z, lk_cons, lk_cons, ih]
      by_cases e2 : a = j
      · subst e2
        simp [e]
      · simp [e2]
theorem keys_pt_old {l : List (κ × β)} {k : κ} {u : β} (v : β) (h : lk l k = some u) : (pt l k v).map (·.1) = l.map (·.1) := by
  rw [pt_old v h, List.map_map]
  refine List.map_congr_left fun p _ => ?_
  show (if p.1 = k then (p.1, v) else p).1 = p.1
  split <;> rfl
theorem nd_pt {l : List (κ × β)} {k : κ} (v : β) (nd : (l.map (·.1)).Nodup) : ((pt l k v).map (·.1)).Nodup := by
  cases h : lk l k with
  | none =>
    rw [pt_new v h, List.map_append]
    refine List.nodup_append.mpr ⟨nd, by simp, fun a ha b hb => ?_⟩
    have eb : b = k := by simpa using hb
    subst eb
    exact fun z => (lk_none.mp h) (by rw [← z]; exact ha)
  | some u =>
    rw [keys_pt_old v h]
    exact nd
theorem nd_dp {l : List (κ × β)} {k : κ} (nd : (l.map (·.1)).Nodup) : ((dp l k).map (·.1)).Nodup :=
  nd.sublist (List.Sublist.map _ List.filter_sublist)
theorem mem_dp {l : List (κ × β)} {k : κ} {p : κ × β} : p ∈ dp l k ↔ p ∈ l ∧ p.1 ≠ k := by
  unfold dp
  rw [List.mem_filter, decide_eq_true_eq]
theorem dp_none {l : List (κ × β)} {k : κ} (h : lk l k = none) : dp l k = l := by
  unfold dp
  refine List.filter_eq_self.mpr fun p hp => decide_eq_true fun z => (lk_none.mp h) ?_
  rw [← z]
  exact List.mem_map.mpr ⟨p, hp, rfl⟩
theorem dp_len {l : List (κ × β)} {k : κ} {v : β} (nd : (l.map (·.1)).Nodup) (h : lk l k = some v) : (dp l k).length + 1 = l.length := by
  induction l with
  | nil => cases h
  | cons p r ih =>
    obtain ⟨a, b⟩ := p
    rw [List.map_cons, List.nodup_cons] at nd
    rw [lk_cons] at h
    by_cases e : a = k
    · subst e
      have z : dp ((a, b) :: r) a = r := by
        unfold dp
        rw [List.filter_cons, if_neg (by simp)]
        have := dp_none (l := r) (k := a) (lk_none.mpr nd.1)
        unfold dp at this
        exact this
      rw [z]
      rfl
    · rw [if_neg e] at h
      have := ih nd.2 h
      have z : dp ((a, b) :: r) k = (a, b) :: dp r k := by
        unfold dp
        rw [List.filter_cons, if_pos (by simp [e])]
      rw [z, List.length_cons, List.length_cons, this]
theorem pt_len_old {l : List (κ × β)} {k : κ} {u : β} (v : β) (h : lk l k = some u) : (pt l k v).length = l.length := by
  rw [pt_old v h, List.length_map]
theorem pt_len_new {l : List (κ × β)} {k : κ} (v : β) (h : lk l k = none) : (pt l k v).length = l.length + 1 := by
  rw [pt_new v h, List.length_append]
  rfl
end

/-! ### heaps -/
/-- to be read as before: all stands, but a dict may be locked -/
def Le (H H' : Hp) : Prop := ∀ a o, H a = some o → H' a = some o ∨ ∃ kvs od, o = .dK kvs ∧ H' a = some (.frz od o)
theorem Le.refl (H : Hp) : Le H H := fun _ _ h => .inl h
theorem Le.trans {H H1 H2 : Hp} (a : Le H H1) (b : Le H1 H2) : Le H H2 := fun x o h => by
  rcases a x o h with h1 | ⟨kvs, od, rfl, h1⟩
  · exact b x o h1
  · rcases b x _ h1 with h2 | ⟨_, _, e, _⟩
    · exact .inr ⟨kvs, od, rfl, h2⟩
    · cases e
theorem Same.le {H H' : Hp} (e : Same H H') : Le H H' := fun a o h => .inl (e a o h)
theorem Le.lock {H : Hp} {d : Addr} {kvs : List (Key × V)} (h : H d = some (.dK kvs)) (od : Obj) : Le H (upd H d (.frz od (.dK kvs))) := fun a o e => by
  by_cases q : a = d
  · subst q
    rw [h] at e
    cases e
    exact .inr ⟨kvs, od, rfl, upd_same⟩
  · rw [upd_ne q]
    exact .inl e
theorem Le.lst {H H' : Hp} {a : Addr} {xs : List V} (e : Le H H') (h : H a = some (.lst xs)) : H' a = some (.lst xs) := by
  rcases e a _ h with h | ⟨_, _, z, _⟩
  · exact h
  · cases z
theorem Le.tup {H H' : Hp} {a : Addr} {xs : List V} (e : Le H H') (h : H a = some (.tup xs)) : H' a = some (.tup xs) := by
  rcases e a _ h with h | ⟨_, _, z, _⟩
  · exact h
  · cases z
theorem Le.ins {H H' : Hp} {a C dx : Addr} {fs : List (Str × V)} (e : Le H H') (h : H a = some (.ins C dx fs)) : H' a = some (.ins C dx fs) := by
  rcases e a _ h with h | ⟨_, _, z, _⟩
  · exact h
  · cases z
theorem Le.rd {H H' : Hp} {a : Addr} {kvs : List (Key × V)} (e : Le H H') (h : Rd H a (.dK kvs)) : Rd H' a (.dK kvs) := by
  rcases h with h | ⟨o, h⟩
  · rcases e a _ h with h | ⟨_, od, z, h⟩
    · exact .inl h
    · exact .inr ⟨od, h⟩
  · rcases e a _ h with h | ⟨_, _, z, _⟩
    · exact .inr ⟨o, h⟩
    · cases z
theorem Le.rdL {H H' : Hp} {a : Addr} {xs : List V} (e : Le H H') (h : Rd H a (.lst xs)) : Rd H' a (.lst xs) := by
  rcases h with h | ⟨o, h⟩
  · exact .inl (e.lst h)
  · rcases e a _ h with h | ⟨_, _, z, _⟩
    · exact .inr ⟨o, h⟩
    · cases z
theorem Le.rdT {H H' : Hp} {a : Addr} {xs : List V} (e : Le H H') (h : Rd H a (.tup xs)) : Rd H' a (.tup xs) := by
  rcases h with h | ⟨o, h⟩
  · exact .inl (e.tup h)
  · rcases e a _ h with h | ⟨_, _, z, _⟩
    · exact .inr ⟨o, h⟩
    · cases z
theorem Le.sql {K : PySem.W.Frag} {H H' : Hp} {a : Addr} {xs : List V} (e : Le H H') (h : SqL K H a xs) : SqL K H' a xs := by
  rcases h with h | h
  · exact .inl (e.rdL h)
  · exact .inr h
theorem Le.sqt {K : PySem.W.Frag} {H H' : Hp} {a : Addr} {xs : List V} (e : Le H H') (h : SqT K H a xs) : SqT K H' a xs := by
  rcases h with h | h
  · exact .inl (e.rdT h)
  · exact .inr h
mutual
theorem Le.dp {K : PySem.W.Frag} {H H' : Hp} (e : Le H H') : ∀ {d : PyData} {v : V}, Dp K H v d → Dp K H' v d
  | .none, _, h => by cases h; exact .non
  | .bool b, _, h => by cases h; exact .bl b
  | .int i, _, h => by cases h; exact .int i
  | .str x, _, h => by cases h; exact .str x
  | .list ds, _, h => by
    cases h with
    | lst s a => exact .lst (e.sql s) (e.dpAll a)
  | .tuple ds, _, h => by
    cases h with
    | tup s a => exact .tup (e.sqt s) (e.dpAll a)
  | .dict _, _, h => by cases h
theorem Le.dpAll {K : PySem.W.Frag} {H H' : Hp} (e : Le H H') : ∀ {ds : List PyData} {vs : List V}, DpAll K H vs ds → DpAll K H' vs ds
  | [], _, h => by cases h; exact .nil
  | d :: ds, _, h => by
    cases h with
    | cons a b => exact .cons (e.dp a) (e.dpAll b)
end
theorem Same.new {H : Hp} {p : Addr} {o : HO} (h : H p = none) : Same H (upd H p o) := fun a u e => by
  rw [upd_ne (ne_of_none e h)]
  exact e
/-- what is new -/
def nw (H H' : Hp) : Hp := fun a => if (H a).isSome = true then none else H' a
theorem nw_le (H H' : Hp) : Le (nw H H') H' := fun a o h => by
  unfold nw at h
  split at h
  · cases h
  · exact .inl h
theorem nw_new {H H' : Hp} {a : Addr} {o : HO} (h : H a = none) (h' : H' a = some o) : nw H H' a = some o := by
  unfold nw
  rw [h, if_neg (by decide)]
  exact h'
theorem nw_none {H H' : Hp} {a : Addr} {o : HO} (h : nw H H' a = some o) : H a = none ∧ H' a = some o := by
  unfold nw at h
  split at h
  · cases h
  · rename_i q
    refine ⟨?_, h⟩
    cases e : H a with
    | none => rfl
    | some u => rw [e] at q; exact absurd rfl q
/-- what was new is new seen from before, and stays -/
theorem nw_mono {H0 H H' H'' : Hp} (b : Same H0 H) (e : Le H' H'') : Le (nw H H') (nw H0 H'') := fun a o h => by
  obtain ⟨h1, h2⟩ := nw_none h
  have h0 := b.free h1
  rcases e a o h2 with h3 | ⟨kvs, od, z, h3⟩
  · exact .inl (nw_new h0 h3)
  · exact .inr ⟨kvs, od, z, nw_new h0 h3⟩
/-- without some -/
def av (ms : List Addr) (H : Hp) : Hp := fun a => if a ∈ ms then none else H a
theorem av_le (ms : List Addr) (H : Hp) : Le (av ms H) H := fun a o h => by
  unfold av at h
  split at h
  · cases h
  · exact .inl h
theorem av_at {ms : List Addr} {H : Hp} {a : Addr} {o : HO} (h : H a = some o) (n : a ∉ ms) : av ms H a = some o := by
  unfold av
  rw [if_neg n]
  exact h
theorem av_of {ms : List Addr} {H : Hp} {a : Addr} {o : HO} (h : av ms H a = some o) : a ∉ ms ∧ H a = some o := by
  unfold av at h
  split at h
  · cases h
  · exact ⟨by assumption, h⟩
/-- all but some is as it was; a tuple never changes -/
structure Keep (ms : List Addr) (H H' : Hp) : Prop where
  k : ∀ a o, a ∉ ms → H a = some o → H' a = some o
  t : ∀ a xs, H a = some (.tup xs) → H' a = some (.tup xs)
theorem Keep.refl {ms : List Addr} {H : Hp} : Keep ms H H := ⟨fun _ _ _ h => h, fun _ _ h => h⟩
theorem Keep.of {ms : List Addr} {H H' : Hp} (e : Same H H') : Keep ms H H' := ⟨fun a o _ h => e a o h, fun a xs h => e a _ h⟩
theorem Keep.trans {ms : List Addr} {H H1 H2 : Hp} (a : Keep ms H H1) (b : Keep ms H1 H2) : Keep ms H H2 := ⟨fun x o n h => b.k x o n (a.k x o n h), fun x xs h => b.t x xs (a.t x xs h)⟩
theorem Keep.mono {ms ns : List Addr} {H H' : Hp} (e : Keep ms H H') (s : ∀ a ∈ ms, a ∈ ns) : Keep ns H H' := ⟨fun a o n h => e.k a o (fun z => n (s a z)) h, e.t⟩
theorem keepUpd {ms : List Addr} {H : Hp} {p : Addr} {o o0 : HO} (h : p ∈ ms) (h0 : H p = some o0) (hn : ∀ xs, o0 ≠ .tup xs) : Keep ms H (upd H p o) := ⟨fun a u n e => by
  rw [upd_ne (fun z => n (by rw [z]; exact h))]
  exact e, fun a xs e => by
  have z : a ≠ p := fun z => by
    rw [z, h0] at e
    exact hn xs (Option.some.inj e)
  rw [upd_ne z]
  exact e⟩
theorem Keep.av {ms : List Addr} {H H' : Hp} (e : Keep ms H H') : Le (av ms H) (av ms H') := fun a o h => by
  obtain ⟨n, h⟩ := av_of h
  exact .inl (av_at (e.k a o n h) n)
theorem Keep.av_le {ms : List Addr} {H H' : Hp} (e : Keep ms H H') : Le (SP.av ms H) H' := fun a o h => by
  obtain ⟨n, h⟩ := av_of h
  exact .inl (e.k a o n h)
/-- nothing kept but by Same where nothing is named -/
theorem Keep.same {H H' : Hp} (e : Keep [] H H') : Same H H' := fun a o h => e.k a o (by simp) h
theorem nw_av {ms : List Addr} {H H' : Hp} (h : ∀ a ∈ ms, (H a).isSome = true) : Le (nw H H') (av ms H') := fun a o e => by
  obtain ⟨h1, h2⟩ := nw_none e
  refine .inl (av_at h2 fun z => ?_)
  have q := h a z
  rw [h1] at q
  cases q
theorem av_mono {ms ns : List Addr} {H : Hp} (s : ∀ a ∈ ns, a ∈ ms) : Le (av ms H) (av ns H) := fun a o h => by
  obtain ⟨n, h⟩ := av_of h
  exact .inl (av_at h fun z => n (s a z))
theorem Same.av {ms : List Addr} {H H' : Hp} (e : Same H H') : Le (SP.av ms H) (SP.av ms H') := (Keep.of e).av
/-- the heap behind an unlocked dict -/
theorem Same.unlock {H H' : Hp} {d : Addr} {od : Obj} {kvs : List (Key × V)} (h : H d = some (.dK kvs)) (e : Same (upd H d (.frz od (.dK kvs))) H') : Same H (upd H' d (.dK kvs)) := fun a o q => by
  by_cases z : a = d
  · subst z
    rw [h] at q
    cases q
    exact upd_same
  · rw [upd_ne z]
    refine e a o ?_
    rw [upd_ne z]
    exact q
theorem lock_free {H : Hp} {d a : Addr} {od : Obj} {kvs : List (Key × V)} (h : upd H d (.frz od (.dK kvs)) a = none) : H a = none ∧ a ≠ d := by
  by_cases z : a = d
  · subst z
    rw [upd_same] at h
    cases h
  · rw [upd_ne z] at h
    exact ⟨h, z⟩
end SP

set_option Elab.async false
set_option linter.all false
set_option maxRecDepth 100000
set_option maxHeartbeats 4000000
/-! The shapes of the classes; readings and what they ask. -/
namespace SP
open PySem PySem.Spec PyProof.Rows L2

/-! ### readings, one step at a time -/
def rFld (K : PySem.W.Frag) (f : Str) : V → Hp → VK → Prop := fun x H1 Q => ∃ a C dx fs v, x = .ref a ∧ H1 a = some (.ins C dx fs) ∧ Cls K C ∧ NoAttr K C f ∧ fs.lookup f = some v ∧ Q v H1
def rSet1 (K : PySem.W.Frag) (f : Str) (y x : V) (H2 : Hp) (q : Hp → Prop) : Prop := ∃ a C dx fs, x = .ref a ∧ H2 a = some (.ins C dx fs) ∧ Cls K C ∧ NoAttr K C f ∧ fs.length < 1000 ∧ q (upd H2 a (.ins C dx (putF f y fs)))
def rMeth (C : Addr) (m : Str) (sp : Sp) (W : WX) (t : TA) (σ : L2.St) : V → Hp → VK → Prop := fun x H1 Q => ∃ a dx fs, x = .ref a ∧ H1 a = some (.ins C dx fs) ∧ fs.lookup m = none ∧ t σ H1 fun vs H2 => sp (x :: vs) H2 Q fun c d H3 => W c d σ H3
section
variable {K : PySem.W.Frag} {σ : L2.St} {H : Hp} {Q : VK} {q2 : Hp → Prop}
def fDisk (v0 v1 : V) : List (Str × V) := [("blocks", v0), ("log", v1)]
theorem lk_Disk_blocks (v0 v1 : V) : (fDisk v0 v1).lookup ("blocks" : Str) = some v0 := rfl
theorem pf_Disk_blocks (v0 v1 y : V) : putF ("blocks" : Str) y (fDisk v0 v1) = fDisk y v1 := rfl
theorem lk_Disk_log (v0 v1 : V) : (fDisk v0 v1).lookup ("log" : Str) = some v1 := rfl
theorem pf_Disk_log (v0 v1 y : V) : putF ("log" : Str) y (fDisk v0 v1) = fDisk v0 y := rfl
theorem no_Disk_read (v0 v1 : V) : (fDisk v0 v1).lookup ("read" : Str) = none := rfl
theorem no_Disk_write (v0 v1 : V) : (fDisk v0 v1).lookup ("write" : Str) = none := rfl
theorem no_Disk_barrier (v0 v1 : V) : (fDisk v0 v1).lookup ("barrier" : Str) = none := rfl
structure PxDisk (K : PySem.W.Frag) : Prop where
  c : Cls K (He.ga K "Disk")
  n_blocks : NoAttr K (He.ga K "Disk") "blocks"
  n_log : NoAttr K (He.ga K "Disk") "log"
abbrev oDisk (K : PySem.W.Frag) (dx : Addr) (v0 v1 : V) : HO := .ins (He.ga K "Disk") dx (fDisk v0 v1)
theorem x_get_Disk_blocks {v0 v1 : V} {p dx : Addr} (T : PxDisk K) (ho : H p = some (oDisk K dx v0 v1)) (q : Q v0 H) : rFld K "blocks" (.ref p) H Q :=
  ⟨p, _, dx, _, _, rfl, ho, T.c, T.n_blocks, lk_Disk_blocks .., q⟩
theorem x_set_Disk_blocks {v0 v1 y : V} {p dx : Addr} (T : PxDisk K) (ho : H p = some (oDisk K dx v0 v1)) (q : q2 (upd H p (oDisk K dx y v1))) : rSet1 K "blocks" y (.ref p) H q2 :=
  ⟨p, _, dx, _, rfl, ho, T.c, T.n_blocks, by show 2 < 1000; decide, q⟩
theorem x_get_Disk_log {v0 v1 : V} {p dx : Addr} (T : PxDisk K) (ho : H p = some (oDisk K dx v0 v1)) (q : Q v1 H) : rFld K "log" (.ref p) H Q :=
  ⟨p, _, dx, _, _, rfl, ho, T.c, T.n_log, lk_Disk_log .., q⟩
theorem x_set_Disk_log {v0 v1 y : V} {p dx : Addr} (T : PxDisk K) (ho : H p = some (oDisk K dx v0 v1)) (q : q2 (upd H p (oDisk K dx v0 y))) : rSet1 K "log" y (.ref p) H q2 :=
  ⟨p, _, dx, _, rfl, ho, T.c, T.n_log, by show 2 < 1000; decide, q⟩
theorem i_set_Disk_blocks {y : V} {p dx : Addr} (T : PxDisk K) (ho : H p = some (.ins (He.ga K "Disk") dx [])) (q : q2 (upd H p (.ins (He.ga K "Disk") dx [("blocks", y)]))) : rSet1 K "blocks" y (.ref p) H q2 :=
  ⟨p, _, dx, _, rfl, ho, T.c, T.n_blocks, by show 0 < 1000; decide, q⟩
theorem i_set_Disk_log {v0 y : V} {p dx : Addr} (T : PxDisk K) (ho : H p = some (.ins (He.ga K "Disk") dx [("blocks", v0)])) (q : q2 (upd H p (.ins (He.ga K "Disk") dx [("blocks", v0), ("log", y)]))) : rSet1 K "log" y (.ref p) H q2 :=
  ⟨p, _, dx, _, rfl, ho, T.c, T.n_log, by show 1 < 1000; decide, q⟩
theorem x_meth_Disk_read {v0 v1 : V} {p dx : Addr} {sp : Sp} {W : WX} {t : TA} (ho : H p = some (oDisk K dx v0 v1)) (q : t σ H fun vs H2 => sp (.ref p :: vs) H2 Q fun c d H3 => W c d σ H3) : rMeth (He.ga K "Disk") "read" sp W t σ (.ref p) H Q :=
  ⟨p, dx, _, rfl, ho, no_Disk_read .., q⟩
theorem x_meth_Disk_write {v0 v1 : V} {p dx : Addr} {sp : Sp} {W : WX} {t : TA} (ho : H p = some (oDisk K dx v0 v1)) (q : t σ H fun vs H2 => sp (.ref p :: vs) H2 Q fun c d H3 => W c d σ H3) : rMeth (He.ga K "Disk") "write" sp W t σ (.ref p) H Q :=
  ⟨p, dx, _, rfl, ho, no_Disk_write .., q⟩
theorem x_meth_Disk_barrier {v0 v1 : V} {p dx : Addr} {sp : Sp} {W : WX} {t : TA} (ho : H p = some (oDisk K dx v0 v1)) (q : t σ H fun vs H2 => sp (.ref p :: vs) H2 Q fun c d H3 => W c d σ H3) : rMeth (He.ga K "Disk") "barrier" sp W t σ (.ref p) H Q :=
  ⟨p, dx, _, rfl, ho, no_Disk_barrier .., q⟩
def fThing (v0 v1 v2 : V) : List (Str × V) := [("kind", v0), ("held", v1), ("entries", v2)]
theorem lk_Thing_kind (v0 v1 v2 : V) : (fThing v0 v1 v2).lookup ("kind" : Str) = some v0 := rfl
theorem pf_Thing_kind (v0 v1 v2 y : V) : putF ("kind" : Str) y (fThing v0 v1 v2) = fThing y v1 v2 := rfl
theorem lk_Thing_held (v0 v1 v2 : V) : (fThing v0 v1 v2).lookup ("held" : Str) = some v1 := rfl
theorem pf_Thing_held (v0 v1 v2 y : V) : putF ("held" : Str) y (fThing v0 v1 v2) = fThing v0 y v2 := rfl
theorem lk_Thing_entries (v0 v1 v2 : V) : (fThing v0 v1 v2).lookup ("entries" : Str) = some v2 := rfl
theorem pf_Thing_entries (v0 v1 v2 y : V) : putF ("entries" : Str) y (fThing v0 v1 v2) = fThing v0 v1 y := rfl
structure PxThing (K : PySem.W.Frag) : Prop where
  c : Cls K (He.ga K "Thing")
  n_kind : NoAttr K (He.ga K "Thing") "kind"
  n_held : NoAttr K (He.ga K "Thing") "held"
  n_entries : NoAttr K (He.ga K "Thing") "entries"
abbrev oThing (K : PySem.W.Frag) (dx : Addr) (v0 v1 v2 : V) : HO := .ins (He.ga K "Thing") dx (fThing v0 v1 v2)
theorem x_get_Thing_kind {v0 v1 v2 : V} {p dx : Addr} (T : PxThing K) (ho : H p = some (oThing K dx v0 v1 v2)) (q : Q v0 H) : rFld K "kind" (.ref p) H Q :=
  ⟨p, _, dx, _, _, rfl, ho, T.c, T.n_kind, lk_Thing_kind .., q⟩
theorem x_set_Thing_kind {v0 v1 v2 y : V} {p dx : Addr} (T : PxThing K) (ho : H p = some (oThing K dx v0 v1 v2)) (q : q2 (upd H p (oThing K dx y v1 v2))) : rSet1 K "kind" y (.ref p) H q2 :=
  ⟨p, _, dx, _, rfl, ho, T.c, T.n_kind, by show 3 < 1000; decide, q⟩
theorem x_get_Thing_held {v0 v1 v2 : V} {p dx : Addr} (T : PxThing K) (ho : H p = some (oThing K dx v0 v1 v2)) (q : Q v1 H) : rFld K "held" (.ref p) H Q :=
  ⟨p, _, dx, _, _, rfl, ho, T.c, T.n_held, lk_Thing_held .., q⟩
theorem x_set_Thing_held {v0 v1 v2 y : V} {p dx : Addr} (T : PxThing K) (ho : H p = some (oThing K dx v0 v1 v2)) (q : q2 (upd H p (oThing K dx v0 y v2))) : rSet1 K "held" y (.ref p) H q2 :=
  ⟨p, _, dx, _, rfl, ho, T.c, T.n_held, by show 3 < 1000; decide, q⟩
theorem x_get_Thing_entries {v0 v1 v2 : V} {p dx : Addr} (T : PxThing K) (ho : H p = some (oThing K dx v0 v1 v2)) (q : Q v2 H) : rFld K "entries" (.ref p) H Q :=
  ⟨p, _, dx, _, _, rfl, ho, T.c, T.n_entries, lk_Thing_entries .., q⟩
theorem x_set_Thing_entries {v0 v1 v2 y : V} {p dx : Addr} (T : PxThing K) (ho : H p = some (oThing K dx v0 v1 v2)) (q : q2 (upd H p (oThing K dx v0 v1 y))) : rSet1 K "entries" y (.ref p) H q2 :=
  ⟨p, _, dx, _, rfl, ho, T.c, T.n_entries, by show 3 < 1000; decide, q⟩
theorem i_set_Thing_kind {y : V} {p dx : Addr} (T : PxThing K) (ho : H p = some (.ins (He.ga K "Thing") dx [])) (q : q2 (upd H p (.ins (He.ga K "Thing") dx [("kind", y)]))) : rSet1 K "kind" y (.ref p) H q2 :=
  ⟨p, _, dx, _, rfl, ho, T.c, T.n_kind, by show 0 < 1000; decide, q⟩
theorem i_set_Thing_held {v0 y : V} {p dx : Addr} (T : PxThing K) (ho : H p = some (.ins (He.ga K "Thing") dx [("kind", v0)])) (q : q2 (upd H p (.ins (He.ga K "Thing") dx [("kind", v0), ("held", y)]))) : rSet1 K "held" y (.ref p) H q2 :=
  ⟨p, _, dx, _, rfl, ho, T.c, T.n_held, by show 1 < 1000; decide, q⟩
theorem i_set_Thing_entries {v0 v1 y : V} {p dx : Addr} (T : PxThing K) (ho : H p = some (.ins (He.ga K "Thing") dx [("kind", v0), ("held", v1)])) (q : q2 (upd H p (.ins (He.ga K "Thing") dx [("kind", v0), ("held", v1), ("entries", y)]))) : rSet1 K "entries" y (.ref p) H q2 :=
  ⟨p, _, dx, _, rfl, ho, T.c, T.n_entries, by show 2 < 1000; decide, q⟩
def fReader (v0 v1 v2 : V) : List (Str × V) := [("row", v0), ("at", v1), ("good", v2)]
theorem lk_Reader_row (v0 v1 v2 : V) : (fReader v0 v1 v2).lookup ("row" : Str) = some v0 := rfl
theorem pf_Reader_row (v0 v1 v2 y : V) : putF ("row" : Str) y (fReader v0 v1 v2) = fReader y v1 v2 := rfl
theorem lk_Reader_at (v0 v1 v2 : V) : (fReader v0 v1 v2).lookup ("at" : Str) = some v1 := rfl
theorem pf_Reader_at (v0 v1 v2 y : V) : putF ("at" : Str) y (fReader v0 v1 v2) = fReader v0 y v2 := rfl
theorem lk_Reader_good (v0 v1 v2 : V) : (fReader v0 v1 v2).lookup ("good" : Str) = some v2 := rfl
theorem pf_Reader_good (v0 v1 v2 y : V) : putF ("good" : Str) y (fReader v0 v1 v2) = fReader v0 v1 y := rfl
theorem no_Reader_byte (v0 v1 v2 : V) : (fReader v0 v1 v2).lookup ("byte" : Str) = none := rfl
theorem no_Reader_text (v0 v1 v2 : V) : (fReader v0 v1 v2).lookup ("text" : Str) = none := rfl
theorem no_Reader_file_bytes (v0 v1 v2 : V) : (fReader v0 v1 v2).lookup ("file_bytes" : Str) = none := rfl
theorem no_Reader_dir_entries (v0 v1 v2 : V) : (fReader v0 v1 v2).lookup ("dir_entries" : Str) = none := rfl
theorem no_Reader_whole_state (v0 v1 v2 : V) : (fReader v0 v1 v2).lookup ("whole_state" : Str) = none := rfl
structure PxReader (K : PySem.W.Frag) : Prop where
  c : Cls K (He.ga K "Reader")
  n_row : NoAttr K (He.ga K "Reader") "row"
  n_at : NoAttr K (He.ga K "Reader") "at"
  n_good : NoAttr K (He.ga K "Reader") "good"
abbrev oReader (K : PySem.W.Frag) (dx : Addr) (v0 v1 v2 : V) : HO := .ins (He.ga K "Reader") dx (fReader v0 v1 v2)
theorem x_get_Reader_row {v0 v1 v2 : V} {p dx : Addr} (T : PxReader K) (ho : H p = some (oReader K dx v0 v1 v2)) (q : Q v0 H) : rFld K "row" (.ref p) H Q :=
  ⟨p, _, dx, _, _, rfl, ho, T.c, T.n_row, lk_Reader_row .., q⟩
theorem x_set_Reader_row {v0 v1 v2 y : V} {p dx : Addr} (T : PxReader K) (ho : H p = some (oReader K dx v0 v1 v2)) (q : q2 (upd H p (oReader K dx y v1 v2))) : rSet1 K "row" y (.ref p) H q2 :=
  ⟨p, _, dx, _, rfl, ho, T.c, T.n_row, by show 3 < 1000; decide, q⟩
theorem x_get_Reader_at {v0 v1 v2 : V} {p dx : Addr} (T : PxReader K) (ho : H p = some (oReader K dx v0 v1 v2)) (q : Q v1 H) : rFld K "at" (.ref p) H Q :=
  ⟨p, _, dx, _, _, rfl, ho, T.c, T.n_at, lk_Reader_at .., q⟩
theorem x_set_Reader_at {v0 v1 v2 y : V} {p dx : Addr} (T : PxReader K) (ho : H p = some (oReader K dx v0 v1 v2)) (q : q2 (upd H p (oReader K dx v0 y v2))) : rSet1 K "at" y (.ref p) H q2 :=
  ⟨p, _, dx, _, rfl, ho, T.c, T.n_at, by show 3 < 1000; decide, q⟩
theorem x_get_Reader_good {v0 v1 v2 : V} {p dx : Addr} (T : PxReader K) (ho : H p = some (oReader K dx v0 v1 v2)) (q : Q v2 H) : rFld K "good" (.ref p) H Q :=
  ⟨p, _, dx, _, _, rfl, ho, T.c, T.n_good, lk_Reader_good .., q⟩
theorem x_set_Reader_good {v0 v1 v2 y : V} {p dx : Addr} (T : PxReader K) (ho : H p = some (oReader K dx v0 v1 v2)) (q : q2 (upd H p (oReader K dx v0 v1 y))) : rSet1 K "good" y (.ref p) H q2 :=
  ⟨p, _, dx, _, rfl, ho, T.c, T.n_good, by show 3 < 1000; decide, q⟩
theorem i_set_Reader_row {y : V} {p dx : Addr} (T : PxReader K) (ho : H p = some (.ins (He.ga K "Reader") dx [])) (q : q2 (upd H p (.ins (He.ga K "Reader") dx [("row", y)]))) : rSet1 K "row" y (.ref p) H q2 :=
  ⟨p, _, dx, _, rfl, ho, T.c, T.n_row, by show 0 < 1000; decide, q⟩
theorem i_set_Reader_at {v0 y : V} {p dx : Addr} (T : PxReader K) (ho : H p = some (.ins (He.ga K "Reader") dx [("row", v0)])) (q : q2 (upd H p (.ins (He.ga K "Reader") dx [("row", v0), ("at", y)]))) : rSet1 K "at" y (.ref p) H q2 :=
  ⟨p, _, dx, _, rfl, ho, T.c, T.n_at, by show 1 < 1000; decide, q⟩
theorem i_set_Reader_good {v0 v1 y : V} {p dx : Addr} (T : PxReader K) (ho : H p = some (.ins (He.ga K "Reader") dx [("row", v0), ("at", v1)])) (q : q2 (upd H p (.ins (He.ga K "Reader") dx [("row", v0), ("at", v1), ("good", y)]))) : rSet1 K "good" y (.ref p) H q2 :=
  ⟨p, _, dx, _, rfl, ho, T.c, T.n_good, by show 2 < 1000; decide, q⟩
theorem x_meth_Reader_byte {v0 v1 v2 : V} {p dx : Addr} {sp : Sp} {W : WX} {t : TA} (ho : H p = some (oReader K dx v0 v1 v2)) (q : t σ H fun vs H2 => sp (.ref p :: vs) H2 Q fun c d H3 => W c d σ H3) : rMeth (He.ga K "Reader") "byte" sp W t σ (.ref p) H Q :=
  ⟨p, dx, _, rfl, ho, no_Reader_byte .., q⟩
theorem x_meth_Reader_text {v0 v1 v2 : V} {p dx : Addr} {sp : Sp} {W : WX} {t : TA} (ho : H p = some (oReader K dx v0 v1 v2)) (q : t σ H fun vs H2 => sp (.ref p :: vs) H2 Q fun c d H3 => W c d σ H3) : rMeth (He.ga K "Reader") "text" sp W t σ (.ref p) H Q :=
  ⟨p, dx, _, rfl, ho, no_Reader_text .., q⟩
theorem x_meth_Reader_file_bytes {v0 v1 v2 : V} {p dx : Addr} {sp : Sp} {W : WX} {t : TA} (ho : H p = some (oReader K dx v0 v1 v2)) (q : t σ H fun vs H2 => sp (.ref p :: vs) H2 Q fun c d H3 => W c d σ H3) : rMeth (He.ga K "Reader") "file_bytes" sp W t σ (.ref p) H Q :=
  ⟨p, dx, _, rfl, ho, no_Reader_file_bytes .., q⟩
theorem x_meth_Reader_dir_entries {v0 v1 v2 : V} {p dx : Addr} {sp : Sp} {W : WX} {t : TA} (ho : H p = some (oReader K dx v0 v1 v2)) (q : t σ H fun vs H2 => sp (.ref p :: vs) H2 Q fun c d H3 => W c d σ H3) : rMeth (He.ga K "Reader") "dir_entries" sp W t σ (.ref p) H Q :=
  ⟨p, dx, _, rfl, ho, no_Reader_dir_entries .., q⟩
theorem x_meth_Reader_whole_state {v0 v1 v2 : V} {p dx : Addr} {sp : Sp} {W : WX} {t : TA} (ho : H p = some (oReader K dx v0 v1 v2)) (q : t σ H fun vs H2 => sp (.ref p :: vs) H2 Q fun c d H3 => W c d σ H3) : rMeth (He.ga K "Reader") "whole_state" sp W t σ (.ref p) H Q :=
  ⟨p, dx, _, rfl, ho, no_Reader_whole_state .., q⟩
def fFiles (v0 v1 v2 v3 v4 v5 v6 : V) : List (Str × V) := [("disk", v0), ("state", v1), ("kept", v2), ("slot", v3), ("turn", v4), ("used", v5), ("is_new", v6)]
theorem lk_Files_disk (v0 v1 v2 v3 v4 v5 v6 : V) : (fFiles v0 v1 v2 v3 v4 v5 v6).lookup ("disk" : Str) = some v0 := rfl
theorem pf_Files_disk (v0 v1 v2 v3 v4 v5 v6 y : V) : putF ("disk" : Str) y (fFiles v0 v1 v2 v3 v4 v5 v6) = fFiles y v1 v2 v3 v4 v5 v6 := rfl
theorem lk_Files_state (v0 v1 v2 v3 v4 v5 v6 : V) : (fFiles v0 v1 v2 v3 v4 v5 v6).lookup ("state" : Str) = some v1 := rfl
theorem pf_Files_state (v0 v1 v2 v3 v4 v5 v6 y : V) : putF ("state" : Str) y (fFiles v0 v1 v2 v3 v4 v5 v6) = fFiles v0 y v2 v3 v4 v5 v6 := rfl
theorem lk_Files_kept (v0 v1 v2 v3 v4 v5 v6 : V) : (fFiles v0 v1 v2 v3 v4 v5 v6).lookup ("kept" : Str) = some v2 := rfl
theorem pf_Files_kept (v0 v1 v2 v3 v4 v5 v6 y : V) : putF ("kept" : Str) y (fFiles v0 v1 v2 v3 v4 v5 v6) = fFiles v0 v1 y v3 v4 v5 v6 := rfl
theorem lk_Files_slot (v0 v1 v2 v3 v4 v5 v6 : V) : (fFiles v0 v1 v2 v3 v4 v5 v6).lookup ("slot" : Str) = some v3 := rfl
theorem pf_Files_slot (v0 v1 v2 v3 v4 v5 v6 y : V) : putF ("slot" : Str) y (fFiles v0 v1 v2 v3 v4 v5 v6) = fFiles v0 v1 v2 y v4 v5 v6 := rfl
theorem lk_Files_turn (v0 v1 v2 v3 v4 v5 v6 : V) : (fFiles v0 v1 v2 v3 v4 v5 v6).lookup ("turn" : Str) = some v4 := rfl
theorem pf_Files_turn (v0 v1 v2 v3 v4 v5 v6 y : V) : putF ("turn" : Str) y (fFiles v0 v1 v2 v3 v4 v5 v6) = fFiles v0 v1 v2 v3 y v5 v6 := rfl
theorem lk_Files_used (v0 v1 v2 v3 v4 v5 v6 : V) : (fFiles v0 v1 v2 v3 v4 v5 v6).lookup ("used" : Str) = some v5 := rfl
theorem pf_Files_used (v0 v1 v2 v3 v4 v5 v6 y : V) : putF ("used" : Str) y (fFiles v0 v1 v2 v3 v4 v5 v6) = fFiles v0 v1 v2 v3 v4 y v6 := rfl
theorem lk_Files_is_new (v0 v1 v2 v3 v4 v5 v6 : V) : (fFiles v0 v1 v2 v3 v4 v5 v6).lookup ("is_new" : Str) = some v6 := rfl
theorem pf_Files_is_new (v0 v1 v2 v3 v4 v5 v6 y : V) : putF ("is_new" : Str) y (fFiles v0 v1 v2 v3 v4 v5 v6) = fFiles v0 v1 v2 v3 v4 v5 y := rfl
theorem no_Files_may_write (v0 v1 v2 v3 v4 v5 v6 : V) : (fFiles v0 v1 v2 v3 v4 v5 v6).lookup ("may_write" : Str) = none := rfl
theorem no_Files_become (v0 v1 v2 v3 v4 v5 v6 : V) : (fFiles v0 v1 v2 v3 v4 v5 v6).lookup ("become" : Str) = none := rfl
theorem no_Files_file_at (v0 v1 v2 v3 v4 v5 v6 : V) : (fFiles v0 v1 v2 v3 v4 v5 v6).lookup ("file_at" : Str) = none := rfl
theorem no_Files_find (v0 v1 v2 v3 v4 v5 v6 : V) : (fFiles v0 v1 v2 v3 v4 v5 v6).lookup ("find" : Str) = none := rfl
theorem no_Files_place_for (v0 v1 v2 v3 v4 v5 v6 : V) : (fFiles v0 v1 v2 v3 v4 v5 v6).lookup ("place_for" : Str) = none := rfl
theorem no_Files_make (v0 v1 v2 v3 v4 v5 v6 : V) : (fFiles v0 v1 v2 v3 v4 v5 v6).lookup ("make" : Str) = none := rfl
theorem no_Files_link (v0 v1 v2 v3 v4 v5 v6 : V) : (fFiles v0 v1 v2 v3 v4 v5 v6).lookup ("link" : Str) = none := rfl
theorem no_Files_unlink (v0 v1 v2 v3 v4 v5 v6 : V) : (fFiles v0 v1 v2 v3 v4 v5 v6).lookup ("unlink" : Str) = none := rfl
theorem no_Files_may_replace (v0 v1 v2 v3 v4 v5 v6 : V) : (fFiles v0 v1 v2 v3 v4 v5 v6).lookup ("may_replace" : Str) = none := rfl
theorem no_Files_rename (v0 v1 v2 v3 v4 v5 v6 : V) : (fFiles v0 v1 v2 v3 v4 v5 v6).lookup ("rename" : Str) = none := rfl
theorem no_Files_read (v0 v1 v2 v3 v4 v5 v6 : V) : (fFiles v0 v1 v2 v3 v4 v5 v6).lookup ("read" : Str) = none := rfl
theorem no_Files_write (v0 v1 v2 v3 v4 v5 v6 : V) : (fFiles v0 v1 v2 v3 v4 v5 v6).lookup ("write" : Str) = none := rfl
theorem no_Files_cut (v0 v1 v2 v3 v4 v5 v6 : V) : (fFiles v0 v1 v2 v3 v4 v5 v6).lookup ("cut" : Str) = none := rfl
theorem no_Files_stat (v0 v1 v2 v3 v4 v5 v6 : V) : (fFiles v0 v1 v2 v3 v4 v5 v6).lookup ("stat" : Str) = none := rfl
theorem no_Files_names (v0 v1 v2 v3 v4 v5 v6 : V) : (fFiles v0 v1 v2 v3 v4 v5 v6).lookup ("names" : Str) = none := rfl
theorem no_Files_sync (v0 v1 v2 v3 v4 v5 v6 : V) : (fFiles v0 v1 v2 v3 v4 v5 v6).lookup ("sync" : Str) = none := rfl
theorem no_Files_write_all (v0 v1 v2 v3 v4 v5 v6 : V) : (fFiles v0 v1 v2 v3 v4 v5 v6).lookup ("write_all" : Str) = none := rfl
theorem no_Files_snap (v0 v1 v2 v3 v4 v5 v6 : V) : (fFiles v0 v1 v2 v3 v4 v5 v6).lookup ("snap" : Str) = none := rfl
theorem no_Files_need_snap (v0 v1 v2 v3 v4 v5 v6 : V) : (fFiles v0 v1 v2 v3 v4 v5 v6).lookup ("need_snap" : Str) = none := rfl
theorem no_Files_unsnap (v0 v1 v2 v3 v4 v5 v6 : V) : (fFiles v0 v1 v2 v3 v4 v5 v6).lookup ("unsnap" : Str) = none := rfl
theorem no_Files_see (v0 v1 v2 v3 v4 v5 v6 : V) : (fFiles v0 v1 v2 v3 v4 v5 v6).lookup ("see" : Str) = none := rfl
theorem no_Files_snaps (v0 v1 v2 v3 v4 v5 v6 : V) : (fFiles v0 v1 v2 v3 v4 v5 v6).lookup ("snaps" : Str) = none := rfl
structure PxFiles (K : PySem.W.Frag) : Prop where
  c : Cls K (He.ga K "Files")
  n_disk : NoAttr K (He.ga K "Files") "disk"
  n_state : NoAttr K (He.ga K "Files") "state"
  n_kept : NoAttr K (He.ga K "Files") "kept"
  n_slot : NoAttr K (He.ga K "Files") "slot"
  n_turn : NoAttr K (He.ga K "Files") "turn"
  n_used : NoAttr K (He.ga K "Files") "used"
  n_is_new : NoAttr K (He.ga K "Files") "is_new"
abbrev oFiles (K : PySem.W.Frag) (dx : Addr) (v0 v1 v2 v3 v4 v5 v6 : V) : HO := .ins (He.ga K "Files") dx (fFiles v0 v1 v2 v3 v4 v5 v6)
theorem x_get_Files_disk {v0 v1 v2 v3 v4 v5 v6 : V} {p dx : Addr} (T : PxFiles K) (ho : H p = some (oFiles K dx v0 v1 v2 v3 v4 v5 v6)) (q : Q v0 H) : rFld K "disk" (.ref p) H Q :=
  ⟨p, _, dx, _, _, rfl, ho, T.c, T.n_disk, lk_Files_disk .., q⟩
theorem x_set_Files_disk {v0 v1 v2 v3 v4 v5 v6 y : V} {p dx : Addr} (T : PxFiles K) (ho : H p = some (oFiles K dx v0 v1 v2 v3 v4 v5 v6)) (q : q2 (upd H p (oFiles K dx y v1 v2 v3 v4 v5 v6))) : rSet1 K "disk" y (.ref p) H q2 :=
  ⟨p, _, dx, _, rfl, ho, T.c, T.n_disk, by show 7 < 1000; decide, q⟩
theorem x_get_Files_state {v0 v1 v2 v3 v4 v5 v6 : V} {p dx : Addr} (T : PxFiles K) (ho : H p = some (oFiles K dx v0 v1 v2 v3 v4 v5 v6)) (q : Q v1 H) : rFld K "state" (.ref p) H Q :=
  ⟨p, _, dx, _, _, rfl, ho, T.c, T.n_state, lk_Files_state .., q⟩
theorem x_set_Files_state {v0 v1 v2 v3 v4 v5 v6 y : V} {p dx : Addr} (T : PxFiles K) (ho : H p = some (oFiles K dx v0 v1 v2 v3 v4 v5 v6)) (q : q2 (upd H p (oFiles K dx v0 y v2 v3 v4 v5 v6))) : rSet1 K "state" y (.ref p) H q2 :=
  ⟨p, _, dx, _, rfl, ho, T.c, T.n_state, by show 7 < 1000; decide, q⟩
theorem x_get_Files_kept {v0 v1 v2 v3 v4 v5 v6 : V} {p dx : Addr} (T : PxFiles K) (ho : H p = some (oFiles K dx v0 v1 v2 v3 v4 v5 v6)) (q : Q v2 H) : rFld K "kept" (.ref p) H Q :=
  ⟨p, _, dx, _, _, rfl, ho, T.c, T.n_kept, lk_Files_kept .., q⟩
theorem x_set_Files_kept {v0 v1 v2 v3 v4 v5 v6 y : V} {p dx : Addr} (T : PxFiles K) (ho : H p = some (oFiles K dx v0 v1 v2 v3 v4 v5 v6)) (q : q2 (upd H p (oFiles K dx v0 v1 y v3 v4 v5 v6))) : rSet1 K "kept" y (.ref p) H q2 :=
  ⟨p, _, dx, _, rfl, ho, T.c, T.n_kept, by show 7 < 1000; decide, q⟩
theorem x_get_Files_slot {v0 v1 v2 v3 v4 v5 v6 : V} {p dx : Addr} (T : PxFiles K) (ho : H p = some (oFiles K dx v0 v1 v2 v3 v4 v5 v6)) (q : Q v3 H) : rFld K "slot" (.ref p) H Q :=
  ⟨p, _, dx, _, _, rfl, ho, T.c, T.n_slot, lk_Files_slot .., q⟩
theorem x_set_Files_slot {v0 v1 v2 v3 v4 v5 v6 y : V} {p dx : Addr} (T : PxFiles K) (ho : H p = some (oFiles K dx v0 v1 v2 v3 v4 v5 v6)) (q : q2 (upd H p (oFiles K dx v0 v1 v2 y v4 v5 v6))) : rSet1 K "slot" y (.ref p) H q2 :=
  ⟨p, _, dx, _, rfl, ho, T.c, T.n_slot, by show 7 < 1000; decide, q⟩
theorem x_get_Files_turn {v0 v1 v2 v3 v4 v5 v6 : V} {p dx : Addr} (T : PxFiles K) (ho : H p = some (oFiles K dx v0 v1 v2 v3 v4 v5 v6)) (q : Q v4 H) : rFld K "turn" (.ref p) H Q :=
  ⟨p, _, dx, _, _, rfl, ho, T.c, T.n_turn, lk_Files_turn .., q⟩
theorem x_set_Files_turn {v0 v1 v2 v3 v4 v5 v6 y : V} {p dx : Addr} (T : PxFiles K) (ho : H p = some (oFiles K dx v0 v1 v2 v3 v4 v5 v6)) (q : q2 (upd H p (oFiles K dx v0 v1 v2 v3 y v5 v6))) : rSet1 K "turn" y (.ref p) H q2 :=
  ⟨p, _, dx, _, rfl, ho, T.c, T.n_turn, by show 7 < 1000; decide, q⟩
theorem x_get_Files_used {v0 v1 v2 v3 v4 v5 v6 : V} {p dx : Addr} (T : PxFiles K) (ho : H p = some (oFiles K dx v0 v1 v2 v3 v4 v5 v6)) (q : Q v5 H) : rFld K "used" (.ref p) H Q :=
  ⟨p, _, dx, _, _, rfl, ho, T.c, T.n_used, lk_Files_used .., q⟩
theorem x_set_Files_used {v0 v1 v2 v3 v4 v5 v6 y : V} {p dx : Addr} (T : PxFiles K) (ho : H p = some (oFiles K dx v0 v1 v2 v3 v4 v5 v6)) (q : q2 (upd H p (oFiles K dx v0 v1 v2 v3 v4 y v6))) : rSet1 K "used" y (.ref p) H q2 :=
  ⟨p, _, dx, _, rfl, ho, T.c, T.n_used, by show 7 < 1000; decide, q⟩
theorem x_get_Files_is_new {v0 v1 v2 v3 v4 v5 v6 : V} {p dx : Addr} (T : PxFiles K) (ho : H p = some (oFiles K dx v0 v1 v2 v3 v4 v5 v6)) (q : Q v6 H) : rFld K "is_new" (.ref p) H Q :=
  ⟨p, _, dx, _, _, rfl, ho, T.c, T.n_is_new, lk_Files_is_new .., q⟩
theorem x_set_Files_is_new {v0 v1 v2 v3 v4 v5 v6 y : V} {p dx : Addr} (T : PxFiles K) (ho : H p = some (oFiles K dx v0 v1 v2 v3 v4 v5 v6)) (q : q2 (upd H p (oFiles K dx v0 v1 v2 v3 v4 v5 y))) : rSet1 K "is_new" y (.ref p) H q2 :=
  ⟨p, _, dx, _, rfl, ho, T.c, T.n_is_new, by show 7 < 1000; decide, q⟩
theorem i_set_Files_disk {y : V} {p dx : Addr} (T : PxFiles K) (ho : H p = some (.ins (He.ga K "Files") dx [])) (q : q2 (upd H p (.ins (He.ga K "Files") dx [("disk", y)]))) : rSet1 K "disk" y (.ref p) H q2 :=
  ⟨p, _, dx, _, rfl, ho, T.c, T.n_disk, by show 0 < 1000; decide, q⟩
theorem i_set_Files_state {v0 y : V} {p dx : Addr} (T : PxFiles K) (ho : H p = some (.ins (He.ga K "Files") dx [("disk", v0)])) (q : q2 (upd H p (.ins (He.ga K "Files") dx [("disk", v0), ("state", y)]))) : rSet1 K "state" y (.ref p) H q2 :=
  ⟨p, _, dx, _, rfl, ho, T.c, T.n_state, by show 1 < 1000; decide, q⟩
theorem i_set_Files_kept {v0 v1 y : V} {p dx : Addr} (T : PxFiles K) (ho : H p = some (.ins (He.ga K "Files") dx [("disk", v0), ("state", v1)])) (q : q2 (upd H p (.ins (He.ga K "Files") dx [("disk", v0), ("state", v1), ("kept", y)]))) : rSet1 K "kept" y (.ref p) H q2 :=
  ⟨p, _, dx, _, rfl, ho, T.c, T.n_kept, by show 2 < 1000; decide, q⟩
theorem i_set_Files_slot {v0 v1 v2 y : V} {p dx : Addr} (T : PxFiles K) (ho : H p = some (.ins (He.ga K "Files") dx [("disk", v0), ("state", v1), ("kept", v2)])) (q : q2 (upd H p (.ins (He.ga K "Files") dx [("disk", v0), ("state", v1), ("kept", v2), ("slot", y)]))) : rSet1 K "slot" y (.ref p) H q2 :=
  ⟨p, _, dx, _, rfl, ho, T.c, T.n_slot, by show 3 < 1000; decide, q⟩
theorem i_set_Files_turn {v0 v1 v2 v3 y : V} {p dx : Addr} (T : PxFiles K) (ho : H p = some (.ins (He.ga K "Files") dx [("disk", v0), ("state", v1), ("kept", v2), ("slot", v3)])) (q : q2 (upd H p (.ins (He.ga K "Files") dx [("disk", v0), ("state", v1), ("kept", v2), ("slot", v3), ("turn", y)]))) : rSet1 K "turn" y (.ref p) H q2 :=
  ⟨p, _, dx, _, rfl, ho, T.c, T.n_turn, by show 4 < 1000; decide, q⟩
theorem i_set_Files_used {v0 v1 v2 v3 v4 y : V} {p dx : Addr} (T : PxFiles K) (ho : H p = some (.ins (He.ga K "Files") dx [("disk", v0), ("state", v1), ("kept", v2), ("slot", v3), ("turn", v4)])) (q : q2 (upd H p (.ins (He.ga K "Files") dx [("disk", v0), ("state", v1), ("kept", v2), ("slot", v3), ("turn", v4), ("used", y)]))) : rSet1 K "used" y (.ref p) H q2 :=
  ⟨p, _, dx, _, rfl, ho, T.c, T.n_used, by show 5 < 1000; decide, q⟩
theorem i_set_Files_is_new {v0 v1 v2 v3 v4 v5 y : V} {p dx : Addr} (T : PxFiles K) (ho : H p = some (.ins (He.ga K "Files") dx [("disk", v0), ("state", v1), ("kept", v2), ("slot", v3), ("turn", v4), ("used", v5)])) (q : q2 (upd H p (.ins (He.ga K "Files") dx [("disk", v0), ("state", v1), ("kept", v2), ("slot", v3), ("turn", v4), ("used", v5), ("is_new", y)]))) : rSet1 K "is_new" y (.ref p) H q2 :=
  ⟨p, _, dx, _, rfl, ho, T.c, T.n_is_new, by show 6 < 1000; decide, q⟩
theorem x_meth_Files_may_write {v0 v1 v2 v3 v4 v5 v6 : V} {p dx : Addr} {sp : Sp} {W : WX} {t : TA} (ho : H p = some (oFiles K dx v0 v1 v2 v3 v4 v5 v6)) (q : t σ H fun vs H2 => sp (.ref p :: vs) H2 Q fun c d H3 => W c d σ H3) : rMeth (He.ga K "Files") "may_write" sp W t σ (.ref p) H Q :=
  ⟨p, dx, _, rfl, ho, no_Files_may_write .., q⟩
theorem x_meth_Files_become {v0 v1 v2 v3 v4 v5 v6 : V} {p dx : Addr} {sp : Sp} {W : WX} {t : TA} (ho : H p = some (oFiles K dx v0 v1 v2 v3 v4 v5 v6)) (q : t σ H fun vs H2 => sp (.ref p :: vs) H2 Q fun c d H3 => W c d σ H3) : rMeth (He.ga K "Files") "become" sp W t σ (.ref p) H Q :=
  ⟨p, dx, _, rfl, ho, no_Files_become .., q⟩
theorem x_meth_Files_file_at {v0 v1 v2 v3 v4 v5 v6 : V} {p dx : Addr} {sp : Sp} {W : WX} {t : TA} (ho : H p = some (oFiles K dx v0 v1 v2 v3 v4 v5 v6)) (q : t σ H fun vs H2 => sp (.ref p :: vs) H2 Q fun c d H3 => W c d σ H3) : rMeth (He.ga K "Files") "file_at" sp W t σ (.ref p) H Q :=
  ⟨p, dx, _, rfl, ho, no_Files_file_at .., q⟩
theorem x_meth_Files_find {v0 v1 v2 v3 v4 v5 v6 : V} {p dx : Addr} {sp : Sp} {W : WX} {t : TA} (ho : H p = some (oFiles K dx v0 v1 v2 v3 v4 v5 v6)) (q : t σ H fun vs H2 => sp (.ref p :: vs) H2 Q fun c d H3 => W c d σ H3) : rMeth (He.ga K "Files") "find" sp W t σ (.ref p) H Q :=
  ⟨p, dx, _, rfl, ho, no_Files_find .., q⟩
theorem x_meth_Files_place_for {v0 v1 v2 v3 v4 v5 v6 : V} {p dx : Addr} {sp : Sp} {W : WX} {t : TA} (ho : H p = some (oFiles K dx v0 v1 v2 v3 v4 v5 v6)) (q : t σ H fun vs H2 => sp (.ref p :: vs) H2 Q fun c d H3 => W c d σ H3) : rMeth (He.ga K "Files") "place_for" sp W t σ (.ref p) H Q :=
  ⟨p, dx, _, rfl, ho, no_Files_place_for .., q⟩
theorem x_meth_Files_make {v0 v1 v2 v3 v4 v5 v6 : V} {p dx : Addr} {sp : Sp} {W : WX} {t : TA} (ho : H p = some (oFiles K dx v0 v1 v2 v3 v4 v5 v6)) (q : t σ H fun vs H2 => sp (.ref p :: vs) H2 Q fun c d H3 => W c d σ H3) : rMeth (He.ga K "Files") "make" sp W t σ (.ref p) H Q :=
  ⟨p, dx, _, rfl, ho, no_Files_make .., q⟩
theorem x_meth_Files_link {v0 v1 v2 v3 v4 v5 v6 : V} {p dx : Addr} {sp : Sp} {W : WX} {t : TA} (ho : H p = some (oFiles K dx v0 v1 v2 v3 v4 v5 v6)) (q : t σ H fun vs H2 => sp (.ref p :: vs) H2 Q fun c d H3 => W c d σ H3) : rMeth (He.ga K "Files") "link" sp W t σ (.ref p) H Q :=
  ⟨p, dx, _, rfl, ho, no_Files_link .., q⟩
theorem x_meth_Files_unlink {v0 v1 v2 v3 v4 v5 v6 : V} {p dx : Addr} {sp : Sp} {W : WX} {t : TA} (ho : H p = some (oFiles K dx v0 v1 v2 v3 v4 v5 v6)) (q : t σ H fun vs H2 => sp (.ref p :: vs) H2 Q fun c d H3 => W c d σ H3) : rMeth (He.ga K "Files") "unlink" sp W t σ (.ref p) H Q :=
  ⟨p, dx, _, rfl, ho, no_Files_unlink .., q⟩
theorem x_meth_Files_may_replace {v0 v1 v2 v3 v4 v5 v6 : V} {p dx : Addr} {sp : Sp} {W : WX} {t : TA} (ho : H p = some (oFiles K dx v0 v1 v2 v3 v4 v5 v6)) (q : t σ H fun vs H2 => sp (.ref p :: vs) H2 Q fun c d H3 => W c d σ H3) : rMeth (He.ga K "Files") "may_replace" sp W t σ (.ref p) H Q :=
  ⟨p, dx, _, rfl, ho, no_Files_may_replace .., q⟩
theorem x_meth_Files_rename {v0 v1 v2 v3 v4 v5 v6 : V} {p dx : Addr} {sp : Sp} {W : WX} {t : TA} (ho : H p = some (oFiles K dx v0 v1 v2 v3 v4 v5 v6)) (q : t σ H fun vs H2 => sp (.ref p :: vs) H2 Q fun c d H3 => W c d σ H3) : rMeth (He.ga K "Files") "rename" sp W t σ (.ref p) H Q :=
  ⟨p, dx, _, rfl, ho, no_Files_rename .., q⟩
theorem x_meth_Files_read {v0 v1 v2 v3 v4 v5 v6 : V} {p dx : Addr} {sp : Sp} {W : WX} {t : TA} (ho : H p = some (oFiles K dx v0 v1 v2 v3 v4 v5 v6)) (q : t σ H fun vs H2 => sp (.ref p :: vs) H2 Q fun c d H3 => W c d σ H3) : rMeth (He.ga K "Files") "read" sp W t σ (.ref p) H Q :=
  ⟨p, dx, _, rfl, ho, no_Files_read .., q⟩
theorem x_meth_Files_write {v0 v1 v2 v3 v4 v5 v6 : V} {p dx : Addr} {sp : Sp} {W : WX} {t : TA} (ho : H p = some (oFiles K dx v0 v1 v2 v3 v4 v5 v6)) (q : t σ H fun vs H2 => sp (.ref p :: vs) H2 Q fun c d H3 => W c d σ H3) : rMeth (He.ga K "Files") "write" sp W t σ (.ref p) H Q :=
  ⟨p, dx, _, rfl, ho, no_Files_write .., q⟩
theorem x_meth_Files_cut {v0 v1 v2 v3 v4 v5 v6 : V} {p dx : Addr} {sp : Sp} {W : WX} {t : TA} (ho : H p = some (oFiles K dx v0 v1 v2 v3 v4 v5 v6)) (q : t σ H fun vs H2 => sp (.ref p :: vs) H2 Q fun c d H3 => W c d σ H3) : rMeth (He.ga K "Files") "cut" sp W t σ (.ref p) H Q :=
  ⟨p, dx, _, rfl, ho, no_Files_cut .., q⟩
theorem x_meth_Files_stat {v0 v1 v2 v3 v4 v5 v6 : V} {p dx : Addr} {sp : Sp} {W : WX} {t : TA} (ho : H p = some (oFiles K dx v0 v1 v2 v3 v4 v5 v6)) (q : t σ H fun vs H2 => sp (.ref p :: vs) H2 Q fun c d H3 => W c d σ H3) : rMeth (He.ga K "Files") "stat" sp W t σ (.ref p) H Q :=
  ⟨p, dx, _, rfl, ho, no_Files_stat .., q⟩
theorem x_meth_Files_names {v0 v1 v2 v3 v4 v5 v6 : V} {p dx : Addr} {sp : Sp} {W : WX} {t : TA} (ho : H p = some (oFiles K dx v0 v1 v2 v3 v4 v5 v6)) (q : t σ H fun vs H2 => sp (.ref p :: vs) H2 Q fun c d H3 => W c d σ H3) : rMeth (He.ga K "Files") "names" sp W t σ (.ref p) H Q :=
  ⟨p, dx, _, rfl, ho, no_Files_names .., q⟩
theorem x_meth_Files_sync {v0 v1 v2 v3 v4 v5 v6 : V} {p dx : Addr} {sp : Sp} {W : WX} {t : TA} (ho : H p = some (oFiles K dx v0 v1 v2 v3 v4 v5 v6)) (q : t σ H fun vs H2 => sp (.ref p :: vs) H2 Q fun c d H3 => W c d σ H3) : rMeth (He.ga K "Files") "sync" sp W t σ (.ref p) H Q :=
  ⟨p, dx, _, rfl, ho, no_Files_sync .., q⟩
theorem x_meth_Files_write_all {v0 v1 v2 v3 v4 v5 v6 : V} {p dx : Addr} {sp : Sp} {W : WX} {t : TA} (ho : H p = some (oFiles K dx v0 v1 v2 v3 v4 v5 v6)) (q : t σ H fun vs H2 => sp (.ref p :: vs) H2 Q fun c d H3 => W c d σ H3) : rMeth (He.ga K "Files") "write_all" sp W t σ (.ref p) H Q :=
  ⟨p, dx, _, rfl, ho, no_Files_write_all .., q⟩
theorem x_meth_Files_snap {v0 v1 v2 v3 v4 v5 v6 : V} {p dx : Addr} {sp : Sp} {W : WX} {t : TA} (ho : H p = some (oFiles K dx v0 v1 v2 v3 v4 v5 v6)) (q : t σ H fun vs H2 => sp (.ref p :: vs) H2 Q fun c d H3 => W c d σ H3) : rMeth (He.ga K "Files") "snap" sp W t σ (.ref p) H Q :=
  ⟨p, dx, _, rfl, ho, no_Files_snap .., q⟩
theorem x_meth_Files_need_snap {v0 v1 v2 v3 v4 v5 v6 : V} {p dx : Addr} {sp : Sp} {W : WX} {t : TA} (ho : H p = some (oFiles K dx v0 v1 v2 v3 v4 v5 v6)) (q : t σ H fun vs H2 => sp (.ref p :: vs) H2 Q fun c d H3 => W c d σ H3) : rMeth (He.ga K "Files") "need_snap" sp W t σ (.ref p) H Q :=
  ⟨p, dx, _, rfl, ho, no_Files_need_snap .., q⟩
theorem x_meth_Files_unsnap {v0 v1 v2 v3 v4 v5 v6 : V} {p dx : Addr} {sp : Sp} {W : WX} {t : TA} (ho : H p = some (oFiles K dx v0 v1 v2 v3 v4 v5 v6)) (q : t σ H fun vs H2 => sp (.ref p :: vs) H2 Q fun c d H3 => W c d σ H3) : rMeth (He.ga K "Files") "unsnap" sp W t σ (.ref p) H Q :=
  ⟨p, dx, _, rfl, ho, no_Files_unsnap .., q⟩
theorem x_meth_Files_see {v0 v1 v2 v3 v4 v5 v6 : V} {p dx : Addr} {sp : Sp} {W : WX} {t : TA} (ho : H p = some (oFiles K dx v0 v1 v2 v3 v4 v5 v6)) (q : t σ H fun vs H2 => sp (.ref p :: vs) H2 Q fun c d H3 => W c d σ H3) : rMeth (He.ga K "Files") "see" sp W t σ (.ref p) H Q :=
  ⟨p, dx, _, rfl, ho, no_Files_see .., q⟩
theorem x_meth_Files_snaps {v0 v1 v2 v3 v4 v5 v6 : V} {p dx : Addr} {sp : Sp} {W : WX} {t : TA} (ho : H p = some (oFiles K dx v0 v1 v2 v3 v4 v5 v6)) (q : t σ H fun vs H2 => sp (.ref p :: vs) H2 Q fun c d H3 => W c d σ H3) : rMeth (He.ga K "Files") "snaps" sp W t σ (.ref p) H Q :=
  ⟨p, dx, _, rfl, ho, no_Files_snaps .., q⟩
end
end SP

set_option Elab.async false
set_option linter.all false
set_option maxRecDepth 100000
set_option maxHeartbeats 4000000
/-! Readings by name, and what each asks, one step at a time. -/
namespace SP
open PySem PySem.Spec PyProof.Rows L2

/-! ### operators by name -/
abbrev rAddI : R2 := rI0 fun i j => .int (i + j)
abbrev rSubI : R2 := rI0 fun i j => .int (i - j)
abbrev rMulI : R2 := rI CMul fun i j => .int (i * j)
abbrev rMulX : R2 := rI CMulW fun i j => .int (i * j)
abbrev rDivI : R2 := rI CDiv fun i j => .int (i / j)
abbrev rModI : R2 := rI (fun _ j => 0 < j) fun i j => .int (i % j)
abbrev rShl : R2 := rI CPow fun i j => .int (i * 2 ^ j.toNat)
def rAddS : R2 := fun x y H Q => ∃ i j, x = .str i ∧ y = .str j ∧ i.length + j.length ≤ sizeLine ∧ Q (.str (i ++ j)) H
theorem op_addS {X : Cx} : OpR X (binaryOp .Add) rAddS := op_add_str
abbrev rLtI : R2 := rI0 fun i j => .bl (decide (i < j))
abbrev rLeI : R2 := rI0 fun i j => .bl (decide (i ≤ j))
abbrev rGtI : R2 := rI0 fun i j => .bl (decide (j < i))
abbrev rGeI : R2 := rI0 fun i j => .bl (decide (j ≤ i))
def rIsN : R2 := fun x y H Q => y = .non ∧ Q (.bl (decide (x = .non))) H
def rNotN : R2 := fun x y H Q => y = .non ∧ Q (.bl (!decide (x = .non))) H
theorem op_isNn {X : Cx} : OpR X (compareOp .Is) rIsN := op_isN
theorem op_notNn {X : Cx} : OpR X (compareOp .IsNot) rNotN := op_notN
def rInS : R2 := fun x y H Q => ∃ (c : Nat) (z : Str), x = .str ⟨#[c]⟩ ∧ y = .str z ∧ Q (.bl (decide (c ∈ z.cps.toList))) H
theorem op_inSn {X : Cx} : OpR X (compareOp .In) rInS := op_in_sign
abbrev rInQ (K : PySem.W.Frag) : R2 := rIn K false
abbrev rNiQ (K : PySem.W.Frag) : R2 := rIn K true
def rNegI : V → Hp → VK → Prop := rU fun i => .int (-i)
theorem un_negn {X : Cx} : UnR X (unaryOp .USub) rNegI := un_neg
/-! calls of built-ins by name -/
def cLenD : List V → Hp → VK → Prop := fun xs H Q => ∃ a kvs, xs = [V.ref a] ∧ H a = some (.dK kvs) ∧ Q (.int kvs.length) H
theorem call_lenDn {X : Cx} : CallR X (.builtin "len") cLenD := call_lenD
def cLenQ (K : PySem.W.Frag) : List V → Hp → VK → Prop := fun xs H Q => ∃ p ys, xs = [.ref p] ∧ (SqL K H p ys ∨ SqT K H p ys) ∧ Q (.int ys.length) H
theorem call_lenQn {X : Cx} : CallR X (.builtin "len") (cLenQ X.K) := call_len_seq
def cLenS : List V → Hp → VK → Prop := fun xs H Q => ∃ z, xs = [.str z] ∧ z.length ≤ sizeLine ∧ Q (.int z.length) H
theorem call_lenSn {X : Cx} : CallR X (.builtin "len") cLenS := call_len_str
def cMin2 : List V → Hp → VK → Prop := fun xs H Q => ∃ i j, xs = [.int i, .int j] ∧ Q (.int (if j < i then j else i)) H
theorem call_min2n {X : Cx} (hc : X.calm = true) : CallR X (.builtin "min") cMin2 := call_min2 hc
def cMax2 : List V → Hp → VK → Prop := fun xs H Q => ∃ i j, xs = [.int i, .int j] ∧ Q (.int (if j > i then j else i)) H
theorem call_max2n {X : Cx} (hc : X.calm = true) : CallR X (.builtin "max") cMax2 := call_max2 hc
def cOrd : List V → Hp → VK → Prop := fun xs H Q => ∃ x, xs = [.str x] ∧ x.length = 1 ∧ Q (.int (x.cps.getD 0 0 : Nat)) H
theorem call_ordn {X : Cx} : CallR X (.builtin "ord") cOrd := call_ord
def cList (K : PySem.W.Frag) : List V → Hp → VK → Prop := fun xs H Q => ∃ p ys, xs = [.ref p] ∧ (SqL K H p ys ∨ SqT K H p ys) ∧ ∀ l, H l = none → Q (.ref l) (upd H l (.lst ys))
theorem call_listn {X : Cx} : CallR X (.type "list") (cList X.K) := call_list_of
def cTuple (K : PySem.W.Frag) : List V → Hp → VK → Prop := fun xs H Q => ∃ p ys, xs = [.ref p] ∧ ((SqL K H p ys ∧ ∀ l, H l = none → Q (.ref l) (upd H l (.tup ys))) ∨ (SqT K H p ys ∧ Q (.ref p) H))
theorem call_tuplen {X : Cx} : CallR X (.type "tuple") (cTuple X.K) := call_tuple_of
def cInt : List V → Hp → VK → Prop := fun xs H Q => (∃ i, xs = [.int i] ∧ Q (.int i) H) ∨ ∃ k, xs = [.bl k] ∧ Q (.int (if k then 1 else 0)) H
theorem call_intn {X : Cx} : CallR X (.type "int") cInt := call_int1
def cStrI : List V → Hp → VK → Prop := fun xs H Q => ∃ i, xs = [.int i] ∧ i.natAbs.log2 < 1920 ∧ Q (.str (toString i)) H
theorem call_strn {X : Cx} : CallR X (.type "str") cStrI := call_str_int

section
variable {K : PySem.W.Frag} {σ : L2.St} {H : Hp} {Q : VK} {QB : Bool → Hp → Prop} {QA : List V → Hp → Prop} {D : Ends} {nx bk ct : L2.St → Hp → Prop} {rt : VK} {t u : TS} {te ta tb : TE} {tt tu : TT} {tA : TA} {g : TG} {v x y : V} {r : R2} {f : Str} {W : WX} {sp : Sp}

/-! ### the middles by name -/
def rBl (QB : Bool → Hp → Prop) : V → Hp → Prop := fun x H => ∃ k, x = .bl k ∧ QB k H
def rNewT (xs : List V) (H : Hp) (Q : VK) : Prop := xs.length ≤ sizeLine ∧ ∀ p, H p = none → Q (.ref p) (upd H p (.tup xs))
def rNewL (xs : List V) (H : Hp) (Q : VK) : Prop := xs.length ≤ sizeLine ∧ ∀ p, H p = none → Q (.ref p) (upd H p (.lst xs))
def rPart (q : Option Int → Hp → Prop) : V → Hp → Prop := fun x H => ∃ i, x = .int i ∧ q (some i) H
def rGetD (x y : V) (H : Hp) (Q : VK) : Prop := ∃ a v, x = .ref a ∧ DGet H a y (some v) ∧ Q v H
def rDin (y x : V) (H : Hp) (Q : VK) : Prop := ∃ a o, x = .ref a ∧ DGet H a y o ∧ Q (.bl o.isSome) H
def rDni (y x : V) (H : Hp) (Q : VK) : Prop := ∃ a o, x = .ref a ∧ DGet H a y o ∧ Q (.bl (!o.isSome)) H
def rPutD (x y v : V) (H : Hp) (q : Hp → Prop) : Prop := ∃ a H4, x = .ref a ∧ DPut H a y v H4 ∧ q H4
def rNewI (C : Addr) (sp : Sp) (W : WX) (σ : L2.St) (vs : List V) (H : Hp) (Q : VK) : Prop := ∀ x dx, H x = none → H dx = none → dx ≠ x → sp (.ref x :: vs) (upd (upd H dx (.own x)) x (.ins C dx [])) (fun v H2 => v = .non ∧ Q (.ref x) H2) fun c d H2 => W c d σ H2
def rRng1 (vs : List V) (H : Hp) (R : It → Hp → Prop) : Prop := ∃ j : Int, vs = [.int j] ∧ -(2 ^ 62) ≤ j ∧ j < 2 ^ 62 ∧ R (Itr 0 j.toNat) H
def rRng2 (vs : List V) (H : Hp) (R : It → Hp → Prop) : Prop := ∃ i j : Int, vs = [.int i, .int j] ∧ (-(2 ^ 62) ≤ i ∧ i < 2 ^ 62 ∧ -(2 ^ 62) ≤ j ∧ j < 2 ^ 62) ∧ R (Itr i (j - i).toNat) H
def rWlk (K : PySem.W.Frag) (x : V) (H : Hp) (R : It → Hp → Prop) : Prop := ∃ a, x = .ref a ∧ (∃ xs, SqL K H a xs) ∧ R (Itl K a) H
/-! ### statements -/
/-! ### tests -/
theorem x_bl {k : Bool} (q : QB k H) : rBl QB (.bl k) H := ⟨k, rfl, q⟩
theorem x_blI {k : Bool} {A : Bool → Prop} (q : A k) : ∃ k', V.bl k = .bl k' ∧ A k' := ⟨k, rfl, q⟩
theorem x_if {b : Bool} {A B : Prop} (h1 : b = true → A) (h2 : b = false → B) : if b = true then A else B := by
  cases b with
  | true => exact (if_pos rfl).mpr (h1 rfl)
  | false => exact (if_neg Bool.false_ne_true).mpr (h2 rfl)
theorem x_ifT {b : Bool} {A B : Prop} (e : b = true) (h : A) : if b = true then A else B := by
  rw [if_pos e]
  exact h
theorem x_ifF {b : Bool} {A B : Prop} (e : b = false) (h : B) : if b = true then A else B := by
  rw [e, if_neg Bool.false_ne_true]
  exact h
/-! ### expressions -/
theorem w_var {i : Nat} (e : σ[i]? = some (some v)) (q : Q v H) : tVar i σ H Q := ⟨v, e, q⟩
/-! made objects -/
theorem x_tup {xs : List V} (q : ∀ p H', H p = none → H' p = some (.tup xs) → Same H H' → Q (.ref p) H') (hl : xs.length ≤ 1000 := by exact Nat.le_of_ble_eq_true rfl) : rNewT xs H Q :=
  ⟨Nat.le_of_lt (small1000 hl), fun p hp => q p _ hp upd_same (Same.new hp)⟩
theorem x_lst {xs : List V} (q : ∀ p H', H p = none → H' p = some (.lst xs) → Same H H' → Q (.ref p) H') (hl : xs.length ≤ 1000 := by exact Nat.le_of_ble_eq_true rfl) : rNewL xs H Q :=
  ⟨Nat.le_of_lt (small1000 hl), fun p hp => q p _ hp upd_same (Same.new hp)⟩
theorem x_new {o : HO} (q : ∀ p H', H p = none → H' p = some o → Same H H' → Q (.ref p) H') : ∀ p, H p = none → Q (.ref p) (upd H p o) := fun p hp => q p _ hp upd_same (Same.new hp)
theorem w_dnew (q : ∀ p H', H p = none → H' p = some (.dK []) → Same H H' → Q (.ref p) H') : tDNewK σ H Q := fun p hp => q p _ hp upd_same (Same.new hp)
/-! ints -/
theorem x_addI {i j : Int} (q : Q (.int (i + j)) H) : rAddI (.int i) (.int j) H Q := ⟨i, j, rfl, rfl, q⟩
theorem x_subI {i j : Int} (q : Q (.int (i - j)) H) : rSubI (.int i) (.int j) H Q := ⟨i, j, rfl, rfl, q⟩
theorem x_mulI {i j : Int} (h : CMul i j) (q : Q (.int (i * j)) H) : rMulI (.int i) (.int j) H Q := ⟨i, j, rfl, rfl, h, q⟩
theorem x_mulX {i j : Int} (h : CMulW i j) (q : Q (.int (i * j)) H) : rMulX (.int i) (.int j) H Q := ⟨i, j, rfl, rfl, h, q⟩
theorem x_divI {i j : Int} (h : CDiv i j) (q : Q (.int (i / j)) H) : rDivI (.int i) (.int j) H Q := ⟨i, j, rfl, rfl, h, q⟩
theorem x_modI {i j : Int} (h : 0 < j) (q : Q (.int (i % j)) H) : rModI (.int i) (.int j) H Q := ⟨i, j, rfl, rfl, h, q⟩
theorem x_shl {i j : Int} (h : CPow i j) (q : Q (.int (i * 2 ^ j.toNat)) H) : rShl (.int i) (.int j) H Q := ⟨i, j, rfl, rfl, h, q⟩
theorem x_ltI {i j : Int} (q : Q (.bl (decide (i < j))) H) : rLtI (.int i) (.int j) H Q := ⟨i, j, rfl, rfl, q⟩
theorem x_leI {i j : Int} (q : Q (.bl (decide (i ≤ j))) H) : rLeI (.int i) (.int j) H Q := ⟨i, j, rfl, rfl, q⟩
theorem x_gtI {i j : Int} (q : Q (.bl (decide (j < i))) H) : rGtI (.int i) (.int j) H Q := ⟨i, j, rfl, rfl, q⟩
theorem x_geI {i j : Int} (q : Q (.bl (decide (j ≤ i))) H) : rGeI (.int i) (.int j) H Q := ⟨i, j, rfl, rfl, q⟩
theorem x_neg {i : Int} (q : Q (.int (-i)) H) : rNegI (.int i) H Q := ⟨i, rfl, q⟩
/-! == -/
theorem x_eqI {i j : Int} (q : Q (.bl (decide (i = j))) H) : rEq (.int i) (.int j) H Q := ⟨rfl, by rw [dec_int, Bool.beq_eq_decide_eq]; exact q⟩
theorem x_neI {i j : Int} (q : Q (.bl (!decide (i = j))) H) : rNe (.int i) (.int j) H Q := ⟨rfl, by rw [dec_int, Bool.beq_eq_decide_eq]; exact q⟩
theorem x_eqS {i j : Str} (q : Q (.bl (decide (i = j))) H) : rEq (.str i) (.str j) H Q := ⟨rfl, by rw [dec_str, Bool.beq_eq_decide_eq]; exact q⟩
theorem x_neS {i j : Str} (q : Q (.bl (!decide (i = j))) H) : rNe (.str i) (.str j) H Q := ⟨rfl, by rw [dec_str, Bool.beq_eq_decide_eq]; exact q⟩
theorem x_isN (q : Q (.bl (decide (x = .non))) H) : rIsN x .non H Q := ⟨rfl, q⟩
theorem x_notN (q : Q (.bl (!decide (x = .non))) H) : rNotN x .non H Q := ⟨rfl, q⟩
/-! texts -/
theorem x_addS {i j : Str} (h : i.length + j.length ≤ sizeLine) (q : Q (.str (i ++ j)) H) : rAddS (.str i) (.str j) H Q := ⟨i, j, rfl, rfl, h, q⟩
theorem x_inS {c : Nat} {z : Str} (q : Q (.bl (decide (c ∈ z.cps.toList))) H) : rInS (.str ⟨#[c]⟩) (.str z) H Q := ⟨c, z, rfl, rfl, q⟩
theorem x_lenS {z : Str} (h : z.length ≤ sizeLine) (q : Q (.int z.length) H) : cLenS [.str z] H Q := ⟨z, rfl, h, q⟩
/-! lists, tuples, dicts -/
theorem x_ixL {p : Addr} {xs : List V} {i : Int} (h : SqL K H p xs) (e : atI xs i = some v) (q : Q v H) : rIxL K (.ref p) (.int i) H Q := ⟨p, xs, i, v, rfl, rfl, h, e, q⟩
theorem x_ixT {p : Addr} {xs : List V} {i : Int} (h : SqT K H p xs) (e : atI xs i = some v) (q : Q v H) : rIxT K (.ref p) (.int i) H Q := ⟨p, xs, i, v, rfl, rfl, h, e, q⟩
theorem x_lenL {p : Addr} {xs : List V} (h : H p = some (.lst xs)) (q : Q (.int xs.length) H) : cLenQ K [.ref p] H Q := ⟨p, xs, rfl, .inl (SqL.of h), q⟩
theorem x_lenT {p : Addr} {xs : List V} (h : H p = some (.tup xs)) (q : Q (.int xs.length) H) : cLenQ K [.ref p] H Q := ⟨p, xs, rfl, .inr (SqT.of h), q⟩
theorem x_lenD {p : Addr} {kvs : List (Key × V)} (h : H p = some (.dK kvs)) (q : Q (.int kvs.length) H) : cLenD [.ref p] H Q := ⟨p, kvs, rfl, h, q⟩
theorem x_cat {l b : Addr} {xs zs : List V} (h1 : H l = some (.lst xs)) (h2 : H b = some (.lst zs)) (hl : xs.length + zs.length ≤ sizeLine) (q : ∀ p H', H p = none → H' p = some (.lst (xs ++ zs)) → Same H H' → Q (.ref p) H') : rCat (.ref l) (.ref b) H Q :=
  ⟨l, b, xs, zs, rfl, rfl, h1, h2, hl, x_new q⟩
theorem x_rep {l : Addr} {xs : List V} {k : Int} (h : H l = some (.lst xs)) (h1 : -(2 ^ 63) ≤ k) (h2 : k < 2 ^ 63) (hl : xs.length * k.toNat ≤ sizeLine) (q : ∀ p H', H p = none → H' p = some (.lst (List.replicate k.toNat xs).flatten) → Same H H' → Q (.ref p) H') : rRep (.ref l) (.int k) H Q :=
  ⟨l, k, xs, rfl, rfl, h, h1, h2, hl, x_new q⟩
theorem x_repT {l : Addr} {xs : List V} {k : Int} (h : H l = some (.tup xs)) (h0 : xs ≠ []) (h1 : 2 ≤ k) (h2 : k ≤ 1000) (hl : xs.length ≤ 1000) (q : ∀ p H', H p = none → H' p = some (.tup (List.replicate k.toNat xs).flatten) → Same H H' → Q (.ref p) H') : rRepT K (.ref l) (.int k) H Q :=
  ⟨l, k, xs, rfl, rfl, SqT.of h, h0, h1, h2, hl, x_new q⟩
theorem x_setL {p : Addr} {xs : List V} {k : Int} {j : Nat} {q : Hp → Prop} (h : H p = some (.lst xs)) (e : ixN xs.length k = some j) (h2 : q (upd H p (.lst (xs.set j v)))) : rSetL (.ref p) (.int k) v H q := ⟨p, xs, k, j, rfl, rfl, h, e, h2⟩
theorem ty_lst {p : Addr} {xs : List V} {A : Prop} (h : H p = some (.lst xs)) (q : A) : tyV K "list" (.ref p) H ∧ A := ⟨.inl ⟨rfl, _, SqL.of h⟩, q⟩
theorem ty_dK {p : Addr} {kvs : List (Key × V)} {A : Prop} (h : H p = some (.dK kvs)) (q : A) : tyV K "dict" (.ref p) H ∧ A := ⟨.inr (.inr (.inl ⟨rfl, .inl ⟨_, h⟩⟩)), q⟩
theorem x_app {l : Addr} {xs : List V} (h : H l = some (.lst xs)) (hl : xs.length < sizeLine) (q : Q .non (upd H l (.lst (xs ++ [v])))) : rAppend (.ref l) [v] H Q := ⟨l, xs, v, rfl, rfl, h, hl, q⟩
theorem x_part {i : Int} {q : Option Int → Hp → Prop} (h : q (some i) H) : rPart q (.int i) H := ⟨i, rfl, h⟩
theorem x_slL {p : Addr} {xs : List V} {lo hi : Option Int} (h : SqL K H p xs) (q : ∀ p' H', H p' = none → H' p' = some (.lst (cutV xs lo hi)) → Same H H' → Q (.ref p') H') : rSlL K (.ref p) lo hi H Q := ⟨p, xs, rfl, h, x_new q⟩
theorem x_slS {z : Str} {lo hi : Option Int} (h : z.length ≤ sizeLine) (q : Q (.str (cutS z lo hi)) H) : rSlS (.str z) lo hi H Q := ⟨z, rfl, h, q⟩
theorem x_listL {p : Addr} {xs : List V} (h : SqL K H p xs) (q : ∀ l H', H l = none → H' l = some (.lst xs) → Same H H' → Q (.ref l) H') : cList K [.ref p] H Q := ⟨p, xs, rfl, .inl h, x_new q⟩
theorem x_listT {p : Addr} {xs : List V} (h : SqT K H p xs) (q : ∀ l H', H l = none → H' l = some (.lst xs) → Same H H' → Q (.ref l) H') : cList K [.ref p] H Q := ⟨p, xs, rfl, .inr h, x_new q⟩
theorem x_tupleL {p : Addr} {xs : List V} (h : SqL K H p xs) (q : ∀ l H', H l = none → H' l = some (.tup xs) → Same H H' → Q (.ref l) H') : cTuple K [.ref p] H Q := ⟨p, xs, rfl, .inl ⟨h, x_new q⟩⟩
theorem dget_rd {a : Addr} {kvs : List (Key × V)} {k : Key} {y : V} {o : Option V} (e : Rd H a (.dK kvs)) (ey : y = kV k) (eo : o = valV kvs k) : DGet H a y o := .inl ⟨kvs, k, e, ey, eo⟩
theorem x_dget {a : Addr} {kvs : List (Key × V)} {k : Key} (e : Rd H a (.dK kvs)) (ey : y = kV k) (eo : valV kvs k = some v) (q : Q v H) : rGetD (.ref a) y H Q := ⟨a, v, rfl, dget_rd e ey eo.symm, q⟩
theorem x_din {a : Addr} {kvs : List (Key × V)} {k : Key} (e : Rd H a (.dK kvs)) (ey : y = kV k) {b : Bool} (eb : (valV kvs k).isSome = b) (q : Q (.bl b) H) : rDin y (.ref a) H Q := ⟨a, _, rfl, dget_rd e ey rfl, by rw [eb]; exact q⟩
theorem x_dni {a : Addr} {kvs : List (Key × V)} {k : Key} (e : Rd H a (.dK kvs)) (ey : y = kV k) {b : Bool} (eb : (valV kvs k).isSome = b) (q : Q (.bl (!b)) H) : rDni y (.ref a) H Q := ⟨a, _, rfl, dget_rd e ey rfl, by rw [eb]; exact q⟩
theorem x_dput {a : Addr} {kvs : List (Key × V)} {k : Key} {q : Hp → Prop} (e : H a = some (.dK kvs)) (hl : kvs.length ≤ 1000) (ey : y = kV k) (h : q (upd H a (.dK (putK kvs k v)))) : rPutD (.ref a) y v H q :=
  ⟨a, _, rfl, .inl ⟨kvs, k, e, ey, small1000 hl, rfl⟩, h⟩
/-! equal data -/
theorem x_eqD {d e : PyData} {a b : V} (h1 : Dp K H a d) (h2 : Dp K H b e) (s1 : SeqAt.shaped d = true) (s2 : SeqAt.shaped e = true) (q : Q (.bl (PyData.eqv d e)) H) : rEqD K a b H Q := ⟨d, e, h1, h2, s1, s2, q⟩
theorem x_neD {d e : PyData} {a b : V} (h1 : Dp K H a d) (h2 : Dp K H b e) (s1 : SeqAt.shaped d = true) (s2 : SeqAt.shaped e = true) (q : Q (.bl (!PyData.eqv d e)) H) : rNeD K a b H Q := ⟨d, e, h1, h2, s1, s2, q⟩
/-! making an instance -/
theorem x_make {C : Addr} {vs : List V} (q : ∀ x dx H', H x = none → H' x = some (.ins C dx []) → Same H H' → sp (.ref x :: vs) H' (fun v H2 => v = .non ∧ Q (.ref x) H2) fun c d H2 => W c d σ H2) : rNewI C sp W σ vs H Q :=
  fun x dx nx ndx ne => q x dx _ nx upd_same fun a o e => by
    rw [upd_ne (ne_of_none e nx), upd_ne (ne_of_none e ndx)]
    exact e
/-! ### loops -/
/-- behind the reading of what is walked -/
def rFor (J : It) (g : TG) (tb : TS) (D : Ends) (σ : L2.St) (H1 : Hp) : Prop := ∃ W : Nat → Nat → L2.St → Hp → Prop, (∃ m, W 0 m σ H1) ∧ ∀ i m σ H, W i m σ H →
  (J.stop i H ∧ D.nx σ H) ∨ (J.go i H ∧ ∃ N : L2.St → Hp → Prop, (∀ σ' H', N σ' H' → ∃ m', m' < m ∧ W (i + 1) m' σ' H') ∧ ∀ x H', J.yld i H x H' → g x σ H' fun σ2 H2 => tb ⟨N, D.rt, D.nx, N⟩ σ2 H2)
theorem x_forW {J : It} {n : Nat} {G : Hp → Prop} {Y : Nat → Hp → V → Hp → Prop} (w : Walk J n G Y) (Pv : Nat → L2.St → Hp → Prop) (h0 : Pv 0 σ H) (hG : ∀ i σ H, i ≤ n → Pv i σ H → G H)
    (hs : ∀ i x σ H H', i < n → Pv i σ H → Y i H x H' → g x σ H' fun σ2 H2 => t ⟨Pv (i + 1), D.rt, D.nx, Pv (i + 1)⟩ σ2 H2) (hd : ∀ σ H, Pv n σ H → D.nx σ H) : rFor J g t D σ H :=
  for_it w Pv h0 hG hs hd
theorem x_forL {a : Addr} {xs : List V} (Pv : Nat → L2.St → Hp → Prop) (h0 : Pv 0 σ H) (hl : ∀ i σ H, i ≤ xs.length → Pv i σ H → SqL K H a xs)
    (hs : ∀ i x σ H, xs[i]? = some x → Pv i σ H → g x σ H fun σ2 H2 => t ⟨Pv (i + 1), D.rt, D.nx, Pv (i + 1)⟩ σ2 H2) (hd : ∀ σ H, Pv xs.length σ H → D.nx σ H) : rFor (Itl K a) g t D σ H :=
  for_list Pv h0 hl hs hd
theorem x_forR {lo : Int} {n : Nat} (Pv : Nat → L2.St → Hp → Prop) (h0 : Pv 0 σ H)
    (hs : ∀ i σ H, i < n → Pv i σ H → g (.int (lo + i)) σ H fun σ2 H2 => t ⟨Pv (i + 1), D.rt, D.nx, Pv (i + 1)⟩ σ2 H2) (hd : ∀ σ H, Pv n σ H → D.nx σ H) : rFor (Itr lo n) g t D σ H :=
  for_range Pv h0 hs hd
theorem x_rng1 {R : It → Hp → Prop} {j : Int} (h1 : -(2 ^ 62) ≤ j) (h2 : j < 2 ^ 62) (h : R (Itr 0 j.toNat) H) : rRng1 [.int j] H R := ⟨j, rfl, h1, h2, h⟩
theorem x_rng2 {R : It → Hp → Prop} {i j : Int} (h1 : -(2 ^ 62) ≤ i ∧ i < 2 ^ 62 ∧ -(2 ^ 62) ≤ j ∧ j < 2 ^ 62) (h : R (Itr i (j - i).toNat) H) : rRng2 [.int i, .int j] H R := ⟨i, j, rfl, h1, h⟩
theorem x_ilist {R : It → Hp → Prop} {a : Addr} {xs : List V} (hx : SqL K H a xs) (h : R (Itl K a) H) : rWlk K (.ref a) H R := ⟨a, rfl, ⟨xs, hx⟩, h⟩
end
theorem sameAt {H H' : Hp} {a : Addr} {o : HO} (s : Same H H') (h : H a = some o) : H' a = some o := s a o h
theorem sameTr {H H1 H2 : Hp} (b : Same H1 H2) (a : Same H H1) : Same H H2 := a.trans b
end SP

set_option Elab.async false
set_option linter.all false
set_option maxRecDepth 100000
set_option maxHeartbeats 4000000
/-! The readings once more, unfolded by the reducible steps alone. -/
namespace SP
open PySem PySem.Spec PyProof.Rows L2
abbrev W0 : WX := fun _ _ _ _ => False
abbrev fin (Q : VK) : Ends := { nx := fun _ H' => Q .non H', rt := Q }
/-- an error of class x is wished -/
abbrev Exn (K : PySem.W.Frag) (E : XK) (x : Str) (H : Hp) : Prop := E (.ref (He.ga K x)) none H
abbrev WE1 (E : XK) : WX := fun c d _ H => E c d H
section
variable (K : PySem.W.Frag)
abbrev uSeq (t u : TS) : TS := fun D σ H => t { nx := u D, rt := D.rt, bk := D.bk, ct := D.ct } σ H
abbrev uNext : TS := fun D σ H => D.nx σ H
abbrev uBreak : TS := fun D σ H => D.bk σ H
abbrev uCont : TS := fun D σ H => D.ct σ H
abbrev uAsg (te : TE) (g : TG) : TS := fun D σ H => te σ H fun x H1 => g x σ H1 D.nx
abbrev vName (i : Nat) : TG := fun v σ H Q => Q (σ.set i (some v)) H
abbrev uRet (te : TE) : TS := fun D σ H => te σ H D.rt
abbrev uRetN : TS := fun D _ H => D.rt .non H
abbrev uDrop (te : TE) : TS := fun D σ H => te σ H fun _ H1 => D.nx σ H1
abbrev uIfS (c : TT) (t u : TS) : TS := fun D σ H => c σ H fun b H1 => if b = true then t D σ H1 else u D σ H1
abbrev uRaiseW (W : WX) (c : Addr) : TS := fun _ σ H => W (.ref c) none σ H
abbrev uFldS (ta tv : TE) (f : Str) : TS := fun D σ H => tv σ H fun y H1 => ta σ H1 fun x H2 => rSet1 K f y x H2 (D.nx σ)
abbrev uTest (t : TE) : TT := fun σ H Q => t σ H fun x H' => rBl Q x H'
abbrev uAnd (t u : TT) : TT := fun σ H Q => t σ H fun c H1 => if c = true then u σ H1 Q else Q false H1
abbrev uOr (t u : TT) : TT := fun σ H Q => t σ H fun c H1 => if c = true then Q true H1 else u σ H1 Q
abbrev uNot (t : TT) : TT := fun σ H Q => t σ H fun c H1 => Q (!c) H1
def rBV (A : Bool → Prop) (x : V) : Prop := ∃ c, x = .bl c ∧ A c
theorem x_bv {A : Bool → Prop} {k : Bool} (q : A k) : rBV A (.bl k) := ⟨k, rfl, q⟩
abbrev uAndV (ta tb : TE) : TE := fun σ H Q => ta σ H fun x H1 => rBV (fun c => if c = true then tb σ H1 Q else Q (.bl false) H1) x
abbrev uOrV (ta tb : TE) : TE := fun σ H Q => ta σ H fun x H1 => rBV (fun c => if c = true then Q (.bl true) H1 else tb σ H1 Q) x
abbrev uNotV (ta : TE) : TE := fun σ H Q => ta σ H fun x H1 => rBV (fun c => Q (.bl (!c)) H1) x
abbrev uIf (t : TT) (ta tb : TE) : TE := fun σ H Q => t σ H fun c H1 => if c = true then ta σ H1 Q else tb σ H1 Q
abbrev uC (v : V) : TE := fun _ H Q => Q v H
abbrev uOp (r : R2) (ta tb : TE) : TE := fun σ H Q => ta σ H fun x H1 => tb σ H1 fun y H2 => r x y H2 Q
abbrev uUn (r : V → Hp → VK → Prop) (ta : TE) : TE := fun σ H Q => ta σ H fun x H1 => r x H1 Q
abbrev uChain (r r' : R2) (ta tb tc : TE) : TE := fun σ H Q => ta σ H fun x H1 => tb σ H1 fun y H2 => r x y H2 fun z H3 => rBV (fun k => if k = true then tc σ H3 fun w' H4 => r' y w' H4 Q else Q (.bl false) H3) z
abbrev uFld (ta : TE) (f : Str) : TE := fun σ H Q => ta σ H fun x H1 => rFld K f x H1 Q
abbrev uNil : TA := fun _ H Q => Q [] H
abbrev uCons (ta : TE) (tr : TA) : TA := fun σ H Q => ta σ H fun x H1 => tr σ H1 fun xs H2 => Q (x :: xs) H2
abbrev uCB (r : List V → Hp → VK → Prop) (t : TA) : TE := fun σ H Q => t σ H fun vs H1 => r vs H1 Q
abbrev uCallW (sp : Sp) (W : WX) (t : TA) : TE := fun σ H Q => t σ H fun vs H1 => sp vs H1 Q fun c d H2 => W c d σ H2
abbrev uMethW (C : Addr) (m : Str) (sp : Sp) (W : WX) (ta : TE) (t : TA) : TE := fun σ H Q => ta σ H fun x H1 => rMeth C m sp W t σ x H1 Q
abbrev uMakeW (C : Addr) (sp : Sp) (W : WX) (t : TA) : TE := fun σ H Q => t σ H fun vs H1 => rNewI C sp W σ vs H1 Q
abbrev uTup (t : TA) : TE := fun σ H Q => t σ H fun xs H1 => rNewT xs H1 Q
abbrev uLst (t : TA) : TE := fun σ H Q => t σ H fun xs H1 => rNewL xs H1 Q
abbrev uSl (r : V → Option Int → Option Int → Hp → VK → Prop) (te : TE) (tl th : TO) : TE := fun σ H Q => te σ H fun x H1 => tl σ H1 fun l H2 => th σ H2 fun u H3 => r x l u H3 Q
abbrev uNoPart : TO := fun _ H Q => Q none H
abbrev uPart (t : TE) : TO := fun σ H Q => t σ H fun x H1 => rPart Q x H1
abbrev uDGet (td ty : TE) : TE := fun σ H Q => td σ H fun x H1 => ty σ H1 fun y H2 => rGetD x y H2 Q
abbrev uDIn (ty td : TE) : TE := fun σ H Q => ty σ H fun y H1 => td σ H1 fun x H2 => rDin y x H2 Q
abbrev uDNotIn (ty td : TE) : TE := fun σ H Q => ty σ H fun y H1 => td σ H1 fun x H2 => rDni y x H2 Q
abbrev uDPut (td ty tv : TE) : TS := fun D σ H => tv σ H fun v H1 => td σ H1 fun x H2 => ty σ H2 fun y H3 => rPutD x y v H3 (D.nx σ)
def rGet1 (ty : TE) (σ : L2.St) (x : V) (H1 : Hp) (Q : VK) : Prop := ∃ a, x = .ref a ∧ IsD H1 a ∧ ty σ H1 fun y H2 => ∃ o, DGet H2 a y o ∧ Q (o.getD .non) H2
abbrev uDGet1 (td ty : TE) : TE := fun σ H Q => td σ H fun x H1 => rGet1 ty σ x H1 Q
def rGet2 (ty tx : TE) (σ : L2.St) (x : V) (H1 : Hp) (Q : VK) : Prop := ∃ a, x = .ref a ∧ IsD H1 a ∧ ty σ H1 fun y H2 => tx σ H2 fun z H3 => ∃ o, DGet H3 a y o ∧ Q (o.getD z) H3
abbrev uDGet2 (td ty tx : TE) : TE := fun σ H Q => td σ H fun x H1 => rGet2 ty tx σ x H1 Q
def rPop1 (ty : TE) (σ : L2.St) (x : V) (H1 : Hp) (Q : VK) : Prop := ∃ a, x = .ref a ∧ IsD H1 a ∧ ty σ H1 fun y H2 => ∃ kvs k v, H2 a = some (.dK kvs) ∧ y = kV k ∧ valV kvs k = some v ∧ Q v (upd H2 a (.dK (dropK kvs k)))
abbrev uDPop1 (td ty : TE) : TE := fun σ H Q => td σ H fun x H1 => rPop1 ty σ x H1 Q
def rBMt (T : String) (r : V → List V → Hp → VK → Prop) (t : TA) (σ : L2.St) (x : V) (H1 : Hp) (Q : VK) : Prop := tyV K T x H1 ∧ t σ H1 fun xs H2 => r x xs H2 Q
abbrev uBM (T : String) (r : V → List V → Hp → VK → Prop) (to : TE) (t : TA) : TE := fun σ H Q => to σ H fun x H1 => rBMt K T r t σ x H1 Q
def rBMt0 (T : String) (r : V → List V → Hp → VK → Prop) (x : V) (H1 : Hp) (Q : VK) : Prop := tyV K T x H1 ∧ r x [] H1 Q
abbrev uBM0 (T : String) (r : V → List V → Hp → VK → Prop) (to : TE) : TE := fun σ H Q => to σ H fun x H1 => rBMt0 K T r x H1 Q
def rM1t (r : V → List V → Hp → VK → Prop) (te : TE) (σ : L2.St) (x : V) (H1 : Hp) (Q : VK) : Prop := (∃ a, x = .str a) ∧ te σ H1 fun y H2 => r x [y] H2 Q
abbrev uM1 (r : V → List V → Hp → VK → Prop) (to te : TE) : TE := fun σ H Q => to σ H fun x H1 => rM1t r te σ x H1 Q
abbrev vSub (to ti : TE) (t : TSet) : TG := fun v σ H Q => to σ H fun o H1 => ti σ H1 fun i H2 => t o i v H2 fun H3 => Q σ H3
abbrev vNil : TGs := gNil
abbrev vCons (t : TG) (u : TGs) : TGs := gCons t u
abbrev vTup (n : Nat) (t : TGs) : TG := gTup K n t
abbrev jRng1 (ta : TA) : TI := fun σ H R => ta σ H fun vs H1 => rRng1 vs H1 R
abbrev jRng2 (ta : TA) : TI := fun σ H R => ta σ H fun vs H1 => rRng2 vs H1 R
abbrev jList (tl : TE) : TI := fun σ H R => tl σ H fun x H1 => rWlk K x H1 R
abbrev uFor (wi : TI) (g : TG) (tb : TS) : TS := fun D σ H => wi σ H fun J H1 => rFor J g tb D σ H1
end
section
variable {K : PySem.W.Frag} {σ : L2.St} {H : Hp} {Q : VK} {f : Str} {ty tx : TE} {tA : TA} {x v : V}
end
section
variable {K : PySem.W.Frag} {σ : L2.St} {H : Hp} {Q : VK} {tA : TA}
theorem x_bmL {p : Addr} {xs : List V} {r : V → List V → Hp → VK → Prop} (h : H p = some (.lst xs)) (q : tA σ H fun ys H2 => r (.ref p) ys H2 Q) : rBMt K "list" r tA σ (.ref p) H Q := ⟨.inl ⟨rfl, _, SqL.of h⟩, q⟩
theorem x_bmL0 {p : Addr} {xs : List V} {r : V → List V → Hp → VK → Prop} (h : H p = some (.lst xs)) (q : r (.ref p) [] H Q) : rBMt0 K "list" r (.ref p) H Q := ⟨.inl ⟨rfl, _, SqL.of h⟩, q⟩
end
theorem freeUpd {H : Hp} {p g : Addr} {o : HO} (h : upd H p o g = none) : H g = none := by
  by_cases e : g = p
  · rw [e, upd_same] at h
    cases h
  · rw [upd_ne e] at h
    exact h
theorem noneSome {H : Hp} {a : Addr} {o : HO} (h : H a = some o) : ¬ H a = none := fun e => by rw [h] at e; cases e
/-- what is free there is free here -/
def Dm (H H' : Hp) : Prop := ∀ a, H' a = none → H a = none
theorem dmRefl {H : Hp} : Dm H H := fun _ h => h
theorem dmSame {H H1 H2 : Hp} (s : Same H1 H2) (d : Dm H H1) : Dm H H2 := fun a h => d a (s.free h)
theorem dmUpd {H H1 : Hp} {p : Addr} {o : HO} (d : Dm H H1) : Dm H (upd H1 p o) := fun a h => d a (freeUpd h)
theorem dmKeep {ms : List Addr} {H H1 H2 : Hp} (e : Keep ms H1 H2) (m : ∀ a ∈ ms, (H2 a).isSome = true) (d : Dm H H1) : Dm H H2 := fun a h => d a (by
  cases q : H1 a with
  | none => rfl
  | some o =>
    by_cases z : a ∈ ms
    · have := m a z
      rw [h] at this
      cases this
    · have := e.k a o z q
      rw [h] at this
      cases this)
theorem dmAt {H H' : Hp} {a : Addr} (d : Dm H H') (h : H' a = none) : H a = none := d a h
theorem freeStep {H H1 : Hp} {g : Addr} (s : Same H H1) (h : H1 g = none) : H g = none := s.free h
theorem keepTr {ms : List Addr} {H H1 H2 : Hp} (b : Keep ms H1 H2) (a : Keep ms H H1) : Keep ms H H2 := a.trans b
theorem keepSm {ms : List Addr} {H H1 H2 : Hp} (b : Same H1 H2) (a : Keep ms H H1) : Keep ms H H2 := a.trans (Keep.of b)
end SP
namespace SP
open PySem PySem.Spec PyProof.Rows L2
abbrev uTryAs (K : PySem.W.Frag) (c : Value) (i : Nat) (tb : WX → TS) (ts : Addr → Value → Option Addr → TS) (Wout : WX) : TS := fun D σ H => tb (wAs K c i ts Wout D) D σ H
abbrev uTryOnly (K : PySem.W.Frag) (c : Value) (tb : WX → TS) (ts : Addr → Value → Option Addr → TS) (Wout : WX) : TS := fun D σ H => tb (wOnly K c ts Wout D) D σ H
end SP

set_option Elab.async false
set_option linter.all false
set_option maxRecDepth 100000
set_option maxHeartbeats 4000000
/-! Disks. -/
namespace SP
open PySem PySem.Spec PyProof.Rows L2
local macro_rules | `(tactic| walk_at "hp") => `(tactic| first
  | assumption
  | exact upd_same
  | (refine' sameAt ?sA ?hA; (case sA => assumption); (case hA => walk_at "hp"))
  | (refine' Eq.trans (upd_ne ?nA) ?hA; (case nA => walk_at "ne"); (case hA => walk_at "hp")))
local macro_rules | `(tactic| walk_at "ne") => `(tactic| first
  | assumption
  | (refine' Ne.symm ?hA; assumption)
  | (refine' ne_of_none (H := _) ?hA (by assumption); walk_at "hp")
  | (refine' Ne.symm (ne_of_none (H := _) ?hA (by assumption)); walk_at "hp")
  | (refine' ne_of ?hA ?hB ?hC; (case hA => assumption); (case hB => walk_at "hp"); (case hC => (intro z; cases z))))
local macro_rules | `(tactic| walk_at "sm") => `(tactic| first
  | exact Same.refl _
  | assumption
  | (refine' sameTr ?sA ?sB; (case sA => assumption); (case sB => walk_at "sm")))
local macro_rules | `(tactic| walk_at "dm") => `(tactic| first
  | exact dmRefl
  | assumption
  | (refine' dmUpd ?dA; (case dA => walk_at "dm"))
  | (refine' dmSame ?sA ?dA; (case sA => assumption); (case dA => walk_at "dm")))
local macro_rules | `(tactic| walk_at "fr") => `(tactic| first
  | assumption
  | (refine' dmAt ?dA ?hA; (case hA => assumption); (case dA => walk_at "dm")))
local macro_rules | `(tactic| walk_at "ab") => `(tactic| (exfalso; refine absurd ?hA (noneSome ?hB); (case hB => walk_at "hp"); (case hA => assumption)))
local macro_rules | `(tactic| walk_at "kp") => `(tactic| first
  | exact Keep.refl
  | assumption
  | (refine' Keep.trans ?kA (keepUpd ?kB ?kC ?kD); (case kB => simp); (case kC => walk_at "hp"); (case kD => (intro xs z; cases z)); (case kA => walk_at "kp"))
  | (refine' keepTr ?kB ?kA; (case kB => assumption); (case kA => walk_at "kp"))
  | (refine' keepSm ?kB ?kA; (case kB => assumption); (case kA => walk_at "kp")))
local macro_rules | `(tactic| walk_at "get") => `(tactic| first
  | (refine' x_get_Files_state ?T ?h ?_) | (refine' x_get_Thing_kind ?T ?h ?_) | (refine' x_get_Thing_entries ?T ?h ?_) | (refine' x_get_Thing_held ?T ?h ?_)
  | (refine' x_get_Files_disk ?T ?h ?_) | (refine' x_get_Files_kept ?T ?h ?_) | (refine' x_get_Files_used ?T ?h ?_)
  | (refine' x_get_Disk_blocks ?T ?h ?_) | (refine' x_get_Disk_log ?T ?h ?_)
  | (refine' x_get_Reader_row ?T ?h ?_) | (refine' x_get_Reader_at ?T ?h ?_) | (refine' x_get_Reader_good ?T ?h ?_)
  | (refine' x_get_Files_slot ?T ?h ?_) | (refine' x_get_Files_turn ?T ?h ?_) | (refine' x_get_Files_is_new ?T ?h ?_))
local macro_rules | `(tactic| walk_at "set") => `(tactic| first
  | ((with_reducible refine' x_set_Disk_blocks ?T ?h ?_); (case T => assumption); (case h => walk_at "hp"))
  | ((with_reducible refine' i_set_Disk_blocks ?T ?h ?_); (case T => assumption); (case h => walk_at "hp"))
  | ((with_reducible refine' x_set_Disk_log ?T ?h ?_); (case T => assumption); (case h => walk_at "hp"))
  | ((with_reducible refine' i_set_Disk_log ?T ?h ?_); (case T => assumption); (case h => walk_at "hp"))
  | ((with_reducible refine' x_set_Thing_kind ?T ?h ?_); (case T => assumption); (case h => walk_at "hp"))
  | ((with_reducible refine' i_set_Thing_kind ?T ?h ?_); (case T => assumption); (case h => walk_at "hp"))
  | ((with_reducible refine' x_set_Thing_held ?T ?h ?_); (case T => assumption); (case h => walk_at "hp"))
  | ((with_reducible refine' i_set_Thing_held ?T ?h ?_); (case T => assumption); (case h => walk_at "hp"))
  | ((with_reducible refine' x_set_Thing_entries ?T ?h ?_); (case T => assumption); (case h => walk_at "hp"))
  | ((with_reducible refine' i_set_Thing_entries ?T ?h ?_); (case T => assumption); (case h => walk_at "hp"))
  | ((with_reducible refine' x_set_Reader_row ?T ?h ?_); (case T => assumption); (case h => walk_at "hp"))
  | ((with_reducible refine' i_set_Reader_row ?T ?h ?_); (case T => assumption); (case h => walk_at "hp"))
  | ((with_reducible refine' x_set_Reader_at ?T ?h ?_); (case T => assumption); (case h => walk_at "hp"))
  | ((with_reducible refine' i_set_Reader_at ?T ?h ?_); (case T => assumption); (case h => walk_at "hp"))
  | ((with_reducible refine' x_set_Reader_good ?T ?h ?_); (case T => assumption); (case h => walk_at "hp"))
  | ((with_reducible refine' i_set_Reader_good ?T ?h ?_); (case T => assumption); (case h => walk_at "hp"))
  | ((with_reducible refine' x_set_Files_disk ?T ?h ?_); (case T => assumption); (case h => walk_at "hp"))
  | ((with_reducible refine' i_set_Files_disk ?T ?h ?_); (case T => assumption); (case h => walk_at "hp"))
  | ((with_reducible refine' x_set_Files_state ?T ?h ?_); (case T => assumption); (case h => walk_at "hp"))
  | ((with_reducible refine' i_set_Files_state ?T ?h ?_); (case T => assumption); (case h => walk_at "hp"))
  | ((with_reducible refine' x_set_Files_kept ?T ?h ?_); (case T => assumption); (case h => walk_at "hp"))
  | ((with_reducible refine' i_set_Files_kept ?T ?h ?_); (case T => assumption); (case h => walk_at "hp"))
  | ((with_reducible refine' x_set_Files_slot ?T ?h ?_); (case T => assumption); (case h => walk_at "hp"))
  | ((with_reducible refine' i_set_Files_slot ?T ?h ?_); (case T => assumption); (case h => walk_at "hp"))
  | ((with_reducible refine' x_set_Files_turn ?T ?h ?_); (case T => assumption); (case h => walk_at "hp"))
  | ((with_reducible refine' i_set_Files_turn ?T ?h ?_); (case T => assumption); (case h => walk_at "hp"))
  | ((with_reducible refine' x_set_Files_used ?T ?h ?_); (case T => assumption); (case h => walk_at "hp"))
  | ((with_reducible refine' i_set_Files_used ?T ?h ?_); (case T => assumption); (case h => walk_at "hp"))
  | ((with_reducible refine' x_set_Files_is_new ?T ?h ?_); (case T => assumption); (case h => walk_at "hp"))
  | ((with_reducible refine' i_set_Files_is_new ?T ?h ?_); (case T => assumption); (case h => walk_at "hp")))
local macro_rules | `(tactic| walk_at "go1") => `(tactic| first
  | ((with_reducible refine w_var (v := ?vv) ?e ?_); (case e => rfl))
  | ((with_reducible walk_at "get"); (case T => assumption); (case h => walk_at "hp"))
  | (with_reducible refine x_bl ?_)
  | (with_reducible refine x_isN ?_) | (with_reducible refine x_notN ?_) | (with_reducible refine x_eqI ?_) | (with_reducible refine x_neI ?_) | (with_reducible refine x_eqS ?_) | (with_reducible refine x_neS ?_)
  | (with_reducible refine x_addI ?_) | (with_reducible refine x_subI ?_) | (with_reducible refine x_ltI ?_) | (with_reducible refine x_leI ?_) | (with_reducible refine x_gtI ?_) | (with_reducible refine x_geI ?_)
  | (with_reducible refine x_bv ?_) | (with_reducible refine x_part ?_) | (with_reducible refine x_neg ?_) | (with_reducible refine x_inS ?_)
  | (walk_at "set")
  | ((with_reducible refine' x_bmL ?h ?_); (case h => walk_at "hp")) | ((with_reducible refine' x_bmL0 ?h ?_); (case h => walk_at "hp")))
local macro_rules | `(tactic| walk_at "go") => `(tactic| ((try with_reducible (conv => whnf)); repeat ((walk_at "go1"); (try with_reducible (conv => whnf)))))
/-! what stands for a disk -/
def oBlk : Option (List Int) → Option (List V)
  | none => none
  | some b => some (b.map V.int)
/-- a block's value -/
def BlkV (H : Hp) : V → Option (List Int) → Prop
  | v, none => v = .non
  | v, some b => ∃ p, v = .ref p ∧ H p = some (.tup (b.map V.int))
theorem BlkV.le {H H' : Hp} (e : Le H H') : ∀ {v : V} {b : Option (List Int)}, BlkV H v b → BlkV H' v b
  | _, none, h => h
  | _, some _, ⟨p, e1, e2⟩ => ⟨p, e1, e.tup e2⟩
/-- an entry of a log -/
inductive Ent where
  | wr (n : Int) (b : List Int)
  | bar
def EntV (H : Hp) (v : V) : Ent → Prop
  | .wr n b => ∃ p q, v = .ref p ∧ H p = some (.tup [.str "write", .int n, .ref q]) ∧ H q = some (.tup (b.map V.int))
  | .bar => ∃ p, v = .ref p ∧ H p = some (.tup [.str "barrier"])
/-- a disk at d, its blocks' list at bl, its log at lg -/
structure DiskAt (K : PySem.W.Frag) (H : Hp) (d bl lg : Addr) (B : List (Option (List Int))) (E : List Ent) : Prop where
  o : ∃ dx, H d = some (oDisk K dx (.ref bl) (.ref lg))
  b : ∃ vs, H bl = some (.lst vs) ∧ Paired (BlkV H) vs B
  l : ∃ vs, H lg = some (.lst vs) ∧ Paired (EntV H) vs E
  ne : bl ≠ lg
theorem BlkV.tu {H H' : Hp} (t : ∀ a xs, H a = some (.tup xs) → H' a = some (.tup xs)) : ∀ {v : V} {b : Option (List Int)}, BlkV H v b → BlkV H' v b
  | _, none, h => h
  | _, some _, ⟨p, e1, e2⟩ => ⟨p, e1, t _ _ e2⟩
theorem EntV.tu {H H' : Hp} (t : ∀ a xs, H a = some (.tup xs) → H' a = some (.tup xs)) : ∀ {v : V} {e : Ent}, EntV H v e → EntV H' v e
  | _, .wr _ _, ⟨p, q, e1, e2, e3⟩ => ⟨p, q, e1, t _ _ e2, t _ _ e3⟩
  | _, .bar, ⟨p, e1, e2⟩ => ⟨p, e1, t _ _ e2⟩
/-- a disk of others stands -/
theorem DiskAt.keep {K : PySem.W.Frag} {H H' : Hp} {d bl lg : Addr} {B : List (Option (List Int))} {E : List Ent} {ms : List Addr} (D : DiskAt K H d bl lg B E) (k : Keep ms H H') (h1 : d ∉ ms) (h2 : bl ∉ ms) (h3 : lg ∉ ms) : DiskAt K H' d bl lg B E := by
  obtain ⟨⟨dx, o⟩, ⟨vs, b, pb⟩, ⟨ws, l, pl⟩, ne⟩ := D
  exact ⟨⟨dx, k.k _ _ h1 o⟩, ⟨vs, k.k _ _ h2 b, L2.Paired.mapP pb fun _ _ z => z.tu k.t⟩, ⟨ws, k.k _ _ h3 l, L2.Paired.mapP pl fun _ _ z => z.tu k.t⟩, ne⟩
theorem DiskAt.same {K : PySem.W.Frag} {H H' : Hp} {d bl lg : Addr} {B : List (Option (List Int))} {E : List Ent} (D : DiskAt K H d bl lg B E) (s : Same H H') : DiskAt K H' d bl lg B E := D.keep (ms := []) (Keep.of s) (by simp) (by simp) (by simp)
theorem DiskAt.neD {K : PySem.W.Frag} {H : Hp} {d bl lg : Addr} {B : List (Option (List Int))} {E : List Ent} (D : DiskAt K H d bl lg B E) : d ≠ bl ∧ d ≠ lg := by
  obtain ⟨⟨dx, o⟩, ⟨vs, b, pb⟩, ⟨ws, l, pl⟩, ne⟩ := D
  exact ⟨ne_of o b (by intro z; cases z), ne_of o l (by intro z; cases z)⟩
theorem flat_one {α : Type} (x : α) : ∀ n : Nat, (List.replicate n [x]).flatten = List.replicate n x
  | 0 => rfl
  | n + 1 => by rw [List.replicate_succ, List.flatten_cons, flat_one x n]; rfl
theorem paired_rep {α β : Type} {F : α → β → Prop} {a : α} {b : β} (h : F a b) : ∀ {n : Nat}, Paired F (List.replicate n a) (List.replicate n b)
  | 0 => .nil
  | n + 1 => .cons h (paired_rep h)
/-! ### Disk.__init__ -/
def sp_Disk___init__ (K : PySem.W.Frag) : Sp := fun vs H Q E => ∃ (p dx : Addr) (n : Int), vs = [.ref p, .int n] ∧ H p = some (.ins (He.ga K "Disk") dx []) ∧
  if 16 ≤ n ∧ n ≤ 256 then ∀ bl lg H', H bl = none → H lg = none → Keep [p] H H' → DiskAt K H' p bl lg (List.replicate n.toNat (some (List.replicate 64 0))) [] → Q .non H'
  else ∀ H', Same H H' → Exn K E "TooGreat" H'
def t_Disk___init__ (K : PySem.W.Frag) (W : WX) : TS := uSeq (uIfS (uNot (uTest (uChain rLeI rLeI (uC (.int 16)) (tVar 1) (uC (.int 256))))) (uRaiseW W (He.ga K "TooGreat")) uNext)
    (uSeq (uFldS K (tVar 0) (uOp rRep (uLst (uCons (uOp (rRepT K) (uTup (uCons (uC (.int 0)) uNil)) (uC (.int 64))) uNil)) (tVar 1)) "blocks")
    (uFldS K (tVar 0) (uLst uNil) "log"))
theorem pure_Disk___init__ {K : PySem.W.Frag} (T : PxDisk K) {vs : List V} {H : Hp} {Q : VK} {E : XK} (h : sp_Disk___init__ K vs H Q E) : t_Disk___init__ K (fun c d _ H => E c d H) (fin Q) (start ["self", "count"] vs) H := by
  obtain ⟨p, dx, n, rfl, hp, k⟩ := h
  show t_Disk___init__ K _ (fin Q) [some (.ref p), some (.int n)] H
  unfold t_Disk___init__
  by_cases c : 16 ≤ n ∧ n ≤ 256
  · rw [if_pos c] at k
    walk_at "go"
    refine x_ifT (decide_eq_true c.1) ?_
    walk_at "go"
    refine x_ifF (by rw [decide_eq_true c.2]; rfl) ?_
    walk_at "go"
    refine x_tup fun t H1 nt ht s1 => ?_
    walk_at "go"
    refine x_repT ht (fun z => by cases z) (by decide) (by decide) (by decide) fun t2 H2 nt2 ht2 s2 => ?_
    walk_at "go"
    refine x_lst fun l H3 nl hl s3 => ?_
    walk_at "go"
    refine x_rep hl (by omega) (by omega) (by rw [sizeLine_eq]; show 1 * n.toNat ≤ _; omega) fun b H4 nb hb s4 => ?_
    walk_at "go"
    refine x_lst fun g H5 ng hg s5 => ?_
    walk_at "go"
    refine k b g _ (by walk_at "fr") (by walk_at "fr") (by walk_at "kp") ⟨⟨dx, upd_same⟩, ⟨(List.replicate n.toNat [V.ref t2]).flatten, by walk_at "hp", ?_⟩, ⟨[], by walk_at "hp", .nil⟩, ?_⟩
    · rw [flat_one]
      have hb : (upd H5 p (HO.ins (He.ga K "Disk") dx [("blocks", V.ref b), ("log", V.ref g)])) t2 = some (.tup ((List.replicate 64 0).map V.int)) := by
        have e : ((List.replicate 64 (0 : Int)).map V.int) = (List.replicate (Int.toNat 64) [V.int 0]).flatten := by rw [flat_one, List.map_replicate] <;> rfl
        rw [e]
        walk_at "hp"
      exact paired_rep ⟨t2, rfl, hb⟩
    · intro z
      subst z
      exact absurd (freeUpd ng) (noneSome hb)
  · rw [if_neg c] at k
    walk_at "go"
    refine x_if (fun h1 => ?_) (fun h1 => ?_)
    · walk_at "go"
      refine x_ifT ?_ ?_
      · have h2 := of_decide_eq_true h1
        rw [decide_eq_false (fun z => c ⟨h2, z⟩)]
        rfl
      · walk_at "go"
        exact k H (Same.refl H)
    · walk_at "go"
      refine x_ifT rfl ?_
      walk_at "go"
      exact k H (Same.refl H)
/-! ### Disk.read, write, barrier -/
def t_Disk_read (K : PySem.W.Frag) (W : WX) : TS := uRet (uOp (rIxL K) (uFld K (tVar 0) "blocks") (tVar 1))
def sp_Disk_read (K : PySem.W.Frag) : Sp := fun vs H Q E => ∃ (p bl lg : Addr) (n : Int) (B : List (Option (List Int))) (L : List Ent) (b : Option (List Int)), vs = [.ref p, .int n] ∧ DiskAt K H p bl lg B L ∧ 0 ≤ n ∧ B[n.toNat]? = some b ∧ ∀ v, BlkV H v b → Q v H
theorem paired_at {α β : Type} {F : α → β → Prop} : ∀ {l1 : List α} {l2 : List β} {i : Nat} {b : β}, Paired F l1 l2 → l2[i]? = some b → ∃ a, l1[i]? = some a ∧ F a b
  | _, _, _, _, .nil, h => by simp at h
  | _, _, 0, _, .cons r _, h => ⟨_, rfl, by simp at h; subst h; exact r⟩
  | _, _, i + 1, b, .cons _ t, h => by
    obtain ⟨a, e, f⟩ := paired_at (i := i) (b := b) t (by simpa using h)
    exact ⟨a, by simpa using e, f⟩
theorem paired_set {α β : Type} {F : α → β → Prop} {a : α} {b : β} (r : F a b) : ∀ {l1 : List α} {l2 : List β} (i : Nat), Paired F l1 l2 → Paired F (l1.set i a) (l2.set i b)
  | _, _, _, .nil => .nil
  | _, _, 0, .cons _ t => .cons r t
  | _, _, i + 1, .cons q t => .cons q (paired_set r i t)
theorem ixN_nat {n : Nat} {i : Int} (h0 : 0 ≤ i) (h : i.toNat < n) : ixN n i = some i.toNat := by
  unfold ixN
  rw [if_pos h0, if_pos (by omega)]
theorem atI_of {α : Type} {xs : List α} {i : Int} {x : α} (h0 : 0 ≤ i) (h : xs[i.toNat]? = some x) : atI xs i = some x := by
  unfold atI
  rw [ixN_nat h0 (List.getElem?_eq_some_iff.mp h).1]
  exact h
theorem pure_Disk_read {K : PySem.W.Frag} (T : PxDisk K) {vs : List V} {H : Hp} {Q : VK} {E : XK} (h : sp_Disk_read K vs H Q E) : t_Disk_read K (WE1 E) (fin Q) (start ["self", "number"] vs) H := by
  obtain ⟨p, bl, lg, n, B, L, b, rfl, ⟨⟨dx, ho⟩, ⟨vs, hb, pb⟩, _, _⟩, h0, hn, k⟩ := h
  show t_Disk_read K _ (fin Q) [some (.ref p), some (.int n)] H
  unfold t_Disk_read
  walk_at "go"
  obtain ⟨v, hv, bv⟩ := paired_at pb hn
  exact x_ixL (SqL.of hb) (atI_of h0 hv) (k v bv)
def t_Disk_write (K : PySem.W.Frag) (W : WX) : TS := uSeq (uAsg (tVar 2) (vSub (uFld K (tVar 0) "blocks") (tVar 1) rSetL))
    (uDrop (uBM K "list" rAppend (uFld K (tVar 0) "log") (uCons (uTup (uCons (uC (.str "write")) (uCons (tVar 1) (uCons (tVar 2) uNil)))) uNil)))
/-- a block is written: its tuple stands at q -/
def sp_Disk_write (K : PySem.W.Frag) : Sp := fun vs H Q E => ∃ (p bl lg q : Addr) (n : Int) (B : List (Option (List Int))) (L : List Ent) (b : List Int), vs = [.ref p, .int n, .ref q] ∧ DiskAt K H p bl lg B L ∧ 0 ≤ n ∧ n.toNat < B.length ∧ L.length ≤ 100000 ∧ H q = some (.tup (b.map V.int)) ∧
  ∀ H', Keep [bl, lg] H H' → DiskAt K H' p bl lg (B.set n.toNat (some b)) (L ++ [.wr n b]) → Q .non H'
theorem Paired.len {α β : Type} {F : α → β → Prop} : ∀ {l1 : List α} {l2 : List β}, Paired F l1 l2 → l1.length = l2.length
  | _, _, .nil => rfl
  | _, _, .cons _ t => by rw [List.length_cons, List.length_cons, Paired.len t]
theorem pure_Disk_write {K : PySem.W.Frag} (T : PxDisk K) {vs : List V} {H : Hp} {Q : VK} {E : XK} (h : sp_Disk_write K vs H Q E) : t_Disk_write K (WE1 E) (fin Q) (start ["self", "number", "block"] vs) H := by
  obtain ⟨p, bl, lg, q, n, B, L, b, rfl, D, h0, hn, hl, hq, k⟩ := h
  obtain ⟨np, np2⟩ := D.neD
  obtain ⟨⟨dx, ho⟩, ⟨vs, hb, pb⟩, ⟨ws, hw, pw⟩, ne⟩ := D
  show t_Disk_write K _ (fin Q) [some (.ref p), some (.int n), some (.ref q)] H
  unfold t_Disk_write
  walk_at "go"
  refine x_setL hb (ixN_nat h0 (by rw [Paired.len pb]; exact hn)) ?_
  walk_at "go"
  refine x_tup fun t H1 nt ht s1 => ?_
  walk_at "go"
  have hq2 : ∀ {o : HO}, upd H bl o q = some (.tup (b.map V.int)) := fun {o} => by
    rw [upd_ne (ne_of hq hb (by intro z; cases z))]
    exact hq
  refine x_app (xs := ws) (by walk_at "hp") (Nat.lt_of_le_of_lt (by rw [Paired.len pw]; exact hl) (by rw [sizeLine_eq]; decide)) ?_
  have kk : Keep [bl, lg] H (upd H1 lg (.lst (ws ++ [.ref t]))) := by walk_at "kp"
  refine k _ kk ⟨⟨dx, kk.k _ _ (by simp [np, np2]) ho⟩, ⟨vs.set n.toNat (.ref q), ?_, ?_⟩, ⟨ws ++ [.ref t], upd_same, ?_⟩, ne⟩
  · rw [upd_ne ne]
    exact s1 _ _ upd_same
  · exact paired_set (F := BlkV _) (b := some b) ⟨q, rfl, kk.t _ _ hq⟩ _ (L2.Paired.mapP pb fun _ _ z => z.tu kk.t)
  · refine Paired.snoc (L2.Paired.mapP pw fun _ _ z => z.tu kk.t) ⟨t, q, rfl, ?_, kk.t _ _ hq⟩
    rw [upd_ne (ne_of ht (s1 _ _ (show (upd H bl _) lg = some (.lst ws) by rw [upd_ne (Ne.symm ne)]; exact hw)) (by intro z; cases z))]
    exact ht
def t_Disk_barrier (K : PySem.W.Frag) (W : WX) : TS := uDrop (uBM K "list" rAppend (uFld K (tVar 0) "log") (uCons (uTup (uCons (uC (.str "barrier")) uNil)) uNil))
def sp_Disk_barrier (K : PySem.W.Frag) : Sp := fun vs H Q E => ∃ (p bl lg : Addr) (B : List (Option (List Int))) (L : List Ent), vs = [.ref p] ∧ DiskAt K H p bl lg B L ∧ L.length ≤ 100000 ∧
  ∀ H', Keep [lg] H H' → DiskAt K H' p bl lg B (L ++ [.bar]) → Q .non H'
theorem pure_Disk_barrier {K : PySem.W.Frag} (T : PxDisk K) {vs : List V} {H : Hp} {Q : VK} {E : XK} (h : sp_Disk_barrier K vs H Q E) : t_Disk_barrier K (WE1 E) (fin Q) (start ["self"] vs) H := by
  obtain ⟨p, bl, lg, B, L, rfl, D, hl, k⟩ := h
  obtain ⟨np, np2⟩ := D.neD
  obtain ⟨⟨dx, ho⟩, ⟨vs, hb, pb⟩, ⟨ws, hw, pw⟩, ne⟩ := D
  show t_Disk_barrier K _ (fin Q) [some (.ref p)] H
  unfold t_Disk_barrier
  walk_at "go"
  refine x_tup fun t H1 nt ht s1 => ?_
  walk_at "go"
  refine x_app (xs := ws) (by walk_at "hp") (Nat.lt_of_le_of_lt (by rw [Paired.len pw]; exact hl) (by rw [sizeLine_eq]; decide)) ?_
  have kk : Keep [lg] H (upd H1 lg (.lst (ws ++ [.ref t]))) := by walk_at "kp"
  refine k _ kk ⟨⟨dx, kk.k _ _ (by simp [np2]) ho⟩, ⟨vs, kk.k _ _ (by simp [ne]) hb, L2.Paired.mapP pb fun _ _ z => z.tu kk.t⟩, ⟨ws ++ [.ref t], upd_same, ?_⟩, ne⟩
  refine Paired.snoc (L2.Paired.mapP pw fun _ _ z => z.tu kk.t) ⟨t, rfl, ?_⟩
  rw [upd_ne (ne_of ht (s1 _ _ hw) (by intro z; cases z))]
  exact ht
end SP

set_option Elab.async false
set_option linter.all false
set_option maxRecDepth 100000
set_option maxHeartbeats 4000000
/-! Defs called in an except suite that take the exception itself; counts over flat items; isinstance there. -/
namespace SP
open PySem PySem.Spec PyProof.Rows L2 L2H

/-! ### list.count of flat items -/
section
variable {X : Cx}
def rCntF (K : PySem.W.Frag) : V → List V → Hp → VK → Prop := fun x xs H Q => ∃ (a : Addr) (ys : List V) (y : V), x = V.ref a ∧ xs = [y] ∧ SqL K H a ys ∧ flatV y = true ∧ ys.all flatV = true ∧ Q (.int ((ys.countP fun z => eqV z y : Nat) : Int)) H
theorem count_eqU {x : V} : ∀ {xs : List V} {us : List Value}, Vals xs us → xs.all flatV = true → us.countP (eqU x) = xs.countP fun y => eqV y x
  | _, _, .nil, _ => rfl
  | x0 :: xs, u0 :: us, .cons r t, f => by
    rw [List.all_cons, Bool.and_eq_true] at f
    rw [List.countP_cons, List.countP_cons, eqU_of r f.1, count_eqU t f.2]
theorem mt_countF : MtR X "list.count" (rCntF X.K) := by
  intro pins s σ H x xs v us Q I rx rxs h
  obtain ⟨a, ys, y, rfl, rfl, hs, fy, fys, q⟩ := h
  cases rx
  cases rxs with
  | cons ry rt =>
    rename_i uy ut
    cases rt
    obtain ⟨its, rv, ⟨⟨cls, dd, data, sl⟩, n, ho, hc, hdn, hd⟩, hlen⟩ := I.list hs
    simp only at hc hd
    subst hc hd
    refine call_meets PySem.F.slot_list_count ⟨_, ho, rfl⟩ PySem.F.entry_list_count (PySem.F.args_list_count_2 _ _)
      (SeqAt.list_countAt a its.toArray n dd sl uy (eqU y)) ⟨ho, fun u' hu' => mem_eqAt ry fy rv fys u' (by simpa using hu'), ?_⟩
    have ec : its.toArray.toList.countP (eqU y) = ys.countP fun z => eqV z y := count_eqU rv fys
    refine ⟨.int ((ys.countP fun z => eqV z y : Nat) : Int), H, I.tok _, ⟨s.toks, ?_⟩, q⟩
    show Value.int ((its.toArray.toList.countP (eqU y) : Nat) : Int) s.toks = _
    rw [ec]
end

/-! ### a def in an except suite that is handed the exception -/
structure FnP (P : Program) (w : World) (K : PySem.W.Frag) (mg : Str → Option Value) (base : Heap) (k : Nat) (f : Addr) (fd : FuncData) (ps : List Str) (sp : Addr × Obj → Sp) : Prop where
  len : ∀ p vs H Q E, sp p vs H Q E → vs.length = ps.length
  run : ∀ (A : Around) (outer : List Env) (s : Shared) (H : Hp) (args : Args) (us : List Value) (vs : List V) (Q : VK) (E : XK) (p : Addr × Obj), RoomH k A → PinOk outer H s p → Env0 P w K mg base A outer s H → BindsTo s fd args (ps.zip us) → Vals vs us → sp p vs H Q E →
    codeAny (model P w) A (.call (.ref f) args) (CR (L2.CX P w) outer P w H s Q E) s
theorem fn_ofP {P : Program} {w : World} {K : PySem.W.Frag} {mg : Str → Option Value} {base : Heap} {k : Nat} {f : Addr} {name qual : Str} {params : Arguments} {body : List Stmt} {scope : Scope} {fd : FuncData}
    {N ps : List Str} {sp : Addr × Obj → Sp} (F : FunD K name qual params body scope [] [] f fd) (S : FnScope N ps scope)
    (len : ∀ p vs H Q E, sp p vs H Q E → vs.length = ps.length)
    (hbody : ∀ (cdv : Value) (A : Around) (outer : List Env) (s : Shared) (H : Hp) (vs : List V) (Q : VK) (E : XK) (p : Addr × Obj), RoomH k (A.deeper (envOfC qual scope s.heap.objs.size f cdv)) → sp p vs H Q E →
      ∃ t, PSs (cxH (L2.CX P w) P w K mg base N qual scope f cdv A outer s H E p) body t ∧ t { nx := fun _ H' => Q .non H', rt := Q } (L2.start N vs) H) :
    FnP P w K mg base (k + 1) f fd ps sp := by
  obtain ⟨oc, od, dV, kV, doc, pm, an, cdv, ct, osl, rfl, lk, hcd, _, _⟩ := F.ex
  refine ⟨len, fun A outer s H args us vs Q E p hr hpin e0 hb r hsp => ?_⟩
  have hl := len _ _ _ _ _ hsp
  have KX : K.In s.heap := e0.mod.kin.keeps fun b o e => (e0.bs b o e).1
  have lim : s.heap.NoLimit := e0.mod.nolimit.keeps fun b o e => (e0.bs b o e).1
  have hkind : ∀ y ∈ ps.zip us, scope.names.lookup y.1 = some .local ∨ (scope.names.lookup y.1 = some .cell ∧ ((cellsFrom (s.heap.objs.size + 1) scope.names []).lookup y.1).isSome = true) := fun ⟨n, v⟩ hy => by
    rcases S.par n (List.of_mem_zip hy).1 with q | q
    · exact .inl q
    · exact .inr ⟨q, PySem.W.cellsFrom_some _ _ _ (.inl q)⟩
  refine codeAny_call_function hr.depth (KX _ _ lk) rfl S.co S.gen rfl (PySem.W.codeRec_of KX hcd) (hb _ _ _ _ ?_)
  refine wpAny_newFunctionEnv_cells S.kind hkind fun env he s1 x => ?_
  subst he
  refine ⟨lim.keeps x.toInCall.keep, codeAny_func ?_⟩
  obtain ⟨t, ht, hq⟩ := hbody cdv A outer s H vs Q E p (hr.deeper _) hsp
  have I : Inv (cxH (L2.CX P w) P w K mg base N qual scope f cdv A outer s H E p) [] (L2.start N vs) H s1 := inv_startH S hpin e0 hl r x
  refine wpAny_mono (ht.run [] s1 (L2.start N vs) H _ I hq) (fun fl s' hs => ?_) fun e s' hs => hs
  have fin : ∀ {σ' : L2.St} {H' : Hp} {v : V} {u : Value}, Inv (cxH (L2.CX P w) P w K mg base N qual scope f cdv A outer s H E p) [] σ' H' s' → RelV v u → Q v H' → CE outer P w H s Q u s' :=
    fun {σ' H' v u} J rv q => ⟨v, H', J.os, J.bare, J.base, J.hok, rv, q⟩
  cases fl with
  | ret u =>
    obtain ⟨v, σ', H', J, rv, q⟩ := hs
    exact fin J rv q
  | next =>
    obtain ⟨σ', H', J, q⟩ := hs
    exact fin (v := V.non) (u := Value.none) J rfl q
  | brk =>
    obtain ⟨_, _, _, q⟩ := hs
    exact False.elim q
  | cont =>
    obtain ⟨_, _, _, q⟩ := hs
    exact False.elim q
section
variable {X : Cx} {k : Nat} {f : Addr} {fd : FuncData} {ps : List Str} {sp : Addr × Obj → Sp} {x : Str} {q pos : Pos} {e : Expr} {es : List Expr} {t : TA} {p : Addr × Obj}
def tCallP (sp : Sp) (t : TA) : TE := fun σ H Q => t σ H fun vs H1 => sp vs H1 Q fun _ _ _ => False
theorem pe_callP (F : FnP X.prog X.w X.K X.mg X.base k f fd ps sp) (hr : RoomH k X.A) (hp : p ∈ X.pn) (hm : X.mg x = some (.ref f)) (hk : PySem.W.keepIn X.K (.ref f) = true) (hb : Binds X.K fd ps [])
    (ha : PA X (e :: es) t) (hg : Gl X x := by rfl) (hdb : (x == ("__debug__" : Str)) = false := by decide) (he : starEach (e :: es) X.env = (false, eval e X.env) :: starEach es X.env := by rfl) (hpl : (backTo pos (starEach es X.env)).any (·.1) = false := by rfl) :
    PE X (.Call (.Name x q) (e :: es) [] pos) (tCallP (sp p) t) := by
  refine ⟨fun pins s σ H Q I h => ?_⟩
  refine wpAny_Call_Name_kw (ld_glob I hg hm ?_ hdb)
  refine PySem.W.callWith_K (h₀ := X.base) I.ok.mod.kin hk (thn (ha.run pos pins s σ H _ I h) fun us s1 ⟨vs, H1, I1, r, q⟩ => ⟨I1.kIn, ?_⟩) he hpl
  have hl : us.length = ps.length := by rw [← r.length]; exact F.len _ _ _ _ _ q
  have b := hb s1 us I1.kIn (by rw [List.append_nil]; exact hl)
  rw [List.append_nil] at b
  have P1 := I1.pin p (List.mem_append_left _ hp)
  have hpin : PinOk X.stack H1 s1 p := ⟨P1.1, P1.2.1, fun hm => (List.mem_cons.mp (I1.stkSub p.1 hm)).elim P1.2.2.1 P1.2.2.2.1, P1.2.2.2.2⟩
  refine wpAny_call (codeAny_mono (F.run X.A X.stack s1 H1 ⟨us, []⟩ us vs Q _ p hr hpin I1.env0 b r q) fun r s' hq => ?_)
  cases r with
  | error e => exact (passAt (W := fun _ _ _ _ => False) takes0 σ pins H1 s1 e s' I1 hq)
  | ok fl =>
    cases fl with
    | ret u => exact I1.after hq
    | next => exact False.elim hq
    | brk => exact False.elim hq
    | cont => exact False.elim hq
/-- isinstance of the exception that is pinned -/
theorem call_isP {a D : Addr} {oe : Obj} (C : ExcC X.K D) (hz : Zc (.ref D) none oe) (hf : ∃ vs, oe.data = .fields vs) (hp : (a, oe) ∈ X.pn) : CallR X (.builtin "isinstance") (rIsE X.K D a) := by
  intro pins s σ H xs us Q I r h
  obtain ⟨c, cv, b, rfl, hcv, e, q⟩ := h
  cases r with
  | cons rx rr =>
    cases rr with
    | cons rt rr =>
      cases rr
      cases rx
      have ec := hcv _ rt
      subst ec
      obtain ⟨hget, _⟩ := I.pin (a, oe) (List.mem_append.mpr (.inl hp))
      obtain ⟨vs, hv⟩ := hf
      have J : PySem.W.InstAt s.heap a oe D none := by
        obtain ⟨oc, od, oda, osl⟩ := oe
        obtain ⟨h1, h2⟩ := hz
        dsimp only at h1 h2 hv
        subst h1 h2 hv
        exact ⟨hget, rfl, rfl, trivial⟩
      exact PySem.W.kia_one (PySem.W.handS_kitx_exc C.hg C.hk C.hs C.hd C.ha C.hn C.ht C.hm) I.kIn J e (fun z => nomatch z) fun tk => ⟨.bl b, H, I.kept (t' := tk) fun _ _ z => z, rfl, q⟩
end
theorem roomP {k : Nat} {A : Around} (r : Room k A) (hd : Option Value) : RoomH k (A.mark hd) := ⟨r.dp, r.un⟩
end SP

set_option Elab.async false
set_option linter.all false
set_option maxRecDepth 100000
set_option maxHeartbeats 4000000
/-! What every law has: cells, drawn numbers, the word of a refusal. -/
namespace SP
open PySem PySem.Spec PyProof.Rows L2
local macro_rules | `(tactic| walk_at "hp") => `(tactic| first
  | assumption
  | exact upd_same
  | (refine' sameAt ?sA ?hA; (case sA => assumption); (case hA => walk_at "hp"))
  | (refine' Eq.trans (upd_ne ?nA) ?hA; (case nA => walk_at "ne"); (case hA => walk_at "hp")))
local macro_rules | `(tactic| walk_at "ne") => `(tactic| first
  | assumption
  | (refine' Ne.symm ?hA; assumption)
  | (refine' ne_of_none (H := _) ?hA (by assumption); walk_at "hp")
  | (refine' Ne.symm (ne_of_none (H := _) ?hA (by assumption)); walk_at "hp")
  | (refine' ne_of ?hA ?hB ?hC; (case hA => assumption); (case hB => walk_at "hp"); (case hC => (intro z; cases z))))
local macro_rules | `(tactic| walk_at "sm") => `(tactic| first
  | exact Same.refl _
  | assumption
  | (refine' sameTr ?sA ?sB; (case sA => assumption); (case sB => walk_at "sm")))
local macro_rules | `(tactic| walk_at "dm") => `(tactic| first
  | exact dmRefl
  | assumption
  | (refine' dmUpd ?dA; (case dA => walk_at "dm"))
  | (refine' dmSame ?sA ?dA; (case sA => assumption); (case dA => walk_at "dm")))
local macro_rules | `(tactic| walk_at "fr") => `(tactic| first
  | assumption
  | (refine' dmAt ?dA ?hA; (case hA => assumption); (case dA => walk_at "dm")))
local macro_rules | `(tactic| walk_at "ab") => `(tactic| (exfalso; refine absurd ?hA (noneSome ?hB); (case hB => walk_at "hp"); (case hA => assumption)))
local macro_rules | `(tactic| walk_at "kp") => `(tactic| first
  | exact Keep.refl
  | assumption
  | (refine' Keep.trans ?kA (keepUpd ?kB ?kC ?kD); (case kB => simp); (case kC => walk_at "hp"); (case kD => (intro xs z; cases z)); (case kA => walk_at "kp"))
  | (refine' keepTr ?kB ?kA; (case kB => assumption); (case kA => walk_at "kp"))
  | (refine' keepSm ?kB ?kA; (case kB => assumption); (case kA => walk_at "kp")))
local macro_rules | `(tactic| walk_at "get") => `(tactic| first
  | (refine' x_get_Files_state ?T ?h ?_) | (refine' x_get_Thing_kind ?T ?h ?_) | (refine' x_get_Thing_entries ?T ?h ?_) | (refine' x_get_Thing_held ?T ?h ?_)
  | (refine' x_get_Files_disk ?T ?h ?_) | (refine' x_get_Files_kept ?T ?h ?_) | (refine' x_get_Files_used ?T ?h ?_)
  | (refine' x_get_Disk_blocks ?T ?h ?_) | (refine' x_get_Disk_log ?T ?h ?_)
  | (refine' x_get_Reader_row ?T ?h ?_) | (refine' x_get_Reader_at ?T ?h ?_) | (refine' x_get_Reader_good ?T ?h ?_)
  | (refine' x_get_Files_slot ?T ?h ?_) | (refine' x_get_Files_turn ?T ?h ?_) | (refine' x_get_Files_is_new ?T ?h ?_))
local macro_rules | `(tactic| walk_at "set") => `(tactic| first
  | ((with_reducible refine' x_set_Disk_blocks ?T ?h ?_); (case T => assumption); (case h => walk_at "hp"))
  | ((with_reducible refine' i_set_Disk_blocks ?T ?h ?_); (case T => assumption); (case h => walk_at "hp"))
  | ((with_reducible refine' x_set_Disk_log ?T ?h ?_); (case T => assumption); (case h => walk_at "hp"))
  | ((with_reducible refine' i_set_Disk_log ?T ?h ?_); (case T => assumption); (case h => walk_at "hp"))
  | ((with_reducible refine' x_set_Thing_kind ?T ?h ?_); (case T => assumption); (case h => walk_at "hp"))
  | ((with_reducible refine' i_set_Thing_kind ?T ?h ?_); (case T => assumption); (case h => walk_at "hp"))
  | ((with_reducible refine' x_set_Thing_held ?T ?h ?_); (case T => assumption); (case h => walk_at "hp"))
  | ((with_reducible refine' i_set_Thing_held ?T ?h ?_); (case T => assumption); (case h => walk_at "hp"))
  | ((with_reducible refine' x_set_Thing_entries ?T ?h ?_); (case T => assumption); (case h => walk_at "hp"))
  | ((with_reducible refine' i_set_Thing_entries ?T ?h ?_); (case T => assumption); (case h => walk_at "hp"))
  | ((with_reducible refine' x_set_Reader_row ?T ?h ?_); (case T => assumption); (case h => walk_at "hp"))
  | ((with_reducible refine' i_set_Reader_row ?T ?h ?_); (case T => assumption); (case h => walk_at "hp"))
  | ((with_reducible refine' x_set_Reader_at ?T ?h ?_); (case T => assumption); (case h => walk_at "hp"))
  | ((with_reducible refine' i_set_Reader_at ?T ?h ?_); (case T => assumption); (case h => walk_at "hp"))
  | ((with_reducible refine' x_set_Reader_good ?T ?h ?_); (case T => assumption); (case h => walk_at "hp"))
  | ((with_reducible refine' i_set_Reader_good ?T ?h ?_); (case T => assumption); (case h => walk_at "hp"))
  | ((with_reducible refine' x_set_Files_disk ?T ?h ?_); (case T => assumption); (case h => walk_at "hp"))
  | ((with_reducible refine' i_set_Files_disk ?T ?h ?_); (case T => assumption); (case h => walk_at "hp"))
  | ((with_reducible refine' x_set_Files_state ?T ?h ?_); (case T => assumption); (case h => walk_at "hp"))
  | ((with_reducible refine' i_set_Files_state ?T ?h ?_); (case T => assumption); (case h => walk_at "hp"))
  | ((with_reducible refine' x_set_Files_kept ?T ?h ?_); (case T => assumption); (case h => walk_at "hp"))
  | ((with_reducible refine' i_set_Files_kept ?T ?h ?_); (case T => assumption); (case h => walk_at "hp"))
  | ((with_reducible refine' x_set_Files_slot ?T ?h ?_); (case T => assumption); (case h => walk_at "hp"))
  | ((with_reducible refine' i_set_Files_slot ?T ?h ?_); (case T => assumption); (case h => walk_at "hp"))
  | ((with_reducible refine' x_set_Files_turn ?T ?h ?_); (case T => assumption); (case h => walk_at "hp"))
  | ((with_reducible refine' i_set_Files_turn ?T ?h ?_); (case T => assumption); (case h => walk_at "hp"))
  | ((with_reducible refine' x_set_Files_used ?T ?h ?_); (case T => assumption); (case h => walk_at "hp"))
  | ((with_reducible refine' i_set_Files_used ?T ?h ?_); (case T => assumption); (case h => walk_at "hp"))
  | ((with_reducible refine' x_set_Files_is_new ?T ?h ?_); (case T => assumption); (case h => walk_at "hp"))
  | ((with_reducible refine' i_set_Files_is_new ?T ?h ?_); (case T => assumption); (case h => walk_at "hp")))
local macro_rules | `(tactic| walk_at "go1") => `(tactic| first
  | ((with_reducible refine w_var (v := ?vv) ?e ?_); (case e => rfl))
  | ((with_reducible walk_at "get"); (case T => assumption); (case h => walk_at "hp"))
  | (with_reducible refine x_bl ?_)
  | (with_reducible refine x_isN ?_) | (with_reducible refine x_notN ?_) | (with_reducible refine x_eqI ?_) | (with_reducible refine x_neI ?_) | (with_reducible refine x_eqS ?_) | (with_reducible refine x_neS ?_)
  | (with_reducible refine x_addI ?_) | (with_reducible refine x_subI ?_) | (with_reducible refine x_ltI ?_) | (with_reducible refine x_leI ?_) | (with_reducible refine x_gtI ?_) | (with_reducible refine x_geI ?_)
  | (with_reducible refine x_bv ?_) | (with_reducible refine x_part ?_) | (with_reducible refine x_neg ?_) | (with_reducible refine x_inS ?_)
  | (walk_at "set")
  | ((with_reducible refine' x_bmL ?h ?_); (case h => walk_at "hp")) | ((with_reducible refine' x_bmL0 ?h ?_); (case h => walk_at "hp")))
local macro_rules | `(tactic| walk_at "go") => `(tactic| ((try with_reducible (conv => whnf)); repeat ((walk_at "go1"); (try with_reducible (conv => whnf)))))
def cell (ns : List Int) (k : Int) : Int := if ns = [] then k * 7919 else (ns.getD (k % ns.length).toNat 0) + k / ns.length * 104729
def sp__law_cell (K : PySem.W.Frag) : Sp := fun vs H Q E => ∃ (a : Addr) (ns : List Int) (k : Int), vs = [.ref a, .int k] ∧ SqL K H a (ns.map V.int) ∧ ns.length ≤ 63 ∧ 0 ≤ k ∧ k < 1000000 ∧ ∀ H', Same H H' → Q (.int (cell ns k)) H'
def t__law_cell (K : PySem.W.Frag) (W : WX) : TS := uSeq (uIfS (uTest (uOp (rEqD K) (tVar 0) (uLst uNil))) (uRet (uOp rMulI (tVar 1) (uC (.int 7919)))) uNext)
    (uRet (uOp rAddI (uOp (rIxL K) (tVar 0) (uOp rModI (tVar 1) (uCB (cLenQ K) (uCons (tVar 0) uNil)))) (uOp rMulI (uOp rDivI (tVar 1) (uCB (cLenQ K) (uCons (tVar 0) uNil))) (uC (.int 104729)))))
theorem dpAll_ints {K : PySem.W.Frag} {H : Hp} : ∀ ns : List Int, DpAll K H (ns.map V.int) (ns.map PyData.int)
  | [] => .nil
  | n :: r => .cons (.int n) (dpAll_ints r)
/-- data of a depth -/
structure Shp (n : Nat) (d : PyData) : Prop where
  c : d.canLay0 = true
  d : d.depth ≤ n
theorem Shp.ok {n : Nat} {d : PyData} (h : Shp n d) (hn : n ≤ 64) : SeqAt.shaped d = true := by
  unfold SeqAt.shaped
  rw [h.c, decide_eq_true (Nat.le_trans h.d hn)]
  rfl
theorem Shp.mono {n m : Nat} {d : PyData} (h : Shp n d) (hn : n ≤ m) : Shp m d := ⟨h.c, Nat.le_trans h.d hn⟩
theorem shp_all {n : Nat} : ∀ {xs : List PyData}, (∀ x ∈ xs, Shp n x) → PyData.canLayAll0 xs = true ∧ PyData.depthAll xs ≤ n
  | [], _ => ⟨by simp [PyData.canLayAll0], by simp [PyData.depthAll]⟩
  | x :: r, h => by
    have h1 := h x List.mem_cons_self
    have h2 := shp_all (n := n) (xs := r) fun y hy => h y (List.mem_cons_of_mem _ hy)
    refine ⟨by simp [PyData.canLayAll0, h1.c, h2.1], ?_⟩
    simp only [PyData.depthAll]
    exact Nat.max_le.mpr ⟨h1.d, h2.2⟩
theorem Shp.list {n : Nat} {xs : List PyData} (h : ∀ x ∈ xs, Shp n x) : Shp (n + 1) (.list xs) := ⟨by simp only [PyData.canLay0]; exact (shp_all h).1, by simp only [PyData.depth]; exact Nat.succ_le_succ (shp_all h).2⟩
theorem Shp.tuple {n : Nat} {xs : List PyData} (h : ∀ x ∈ xs, Shp n x) : Shp (n + 1) (.tuple xs) := ⟨by simp only [PyData.canLay0]; exact (shp_all h).1, by simp only [PyData.depth]; exact Nat.succ_le_succ (shp_all h).2⟩
theorem Shp.int {n : Nat} (i : Int) : Shp n (.int i) := ⟨by simp [PyData.canLay0], by simp [PyData.depth]⟩
theorem Shp.none {n : Nat} : Shp n .none := ⟨by simp [PyData.canLay0], by simp [PyData.depth]⟩
theorem shaped_ints (ns : List Int) : SeqAt.shaped (.list (ns.map PyData.int)) = true := (Shp.list (n := 0) fun x hx => by
  obtain ⟨i, _, rfl⟩ := List.mem_map.mp hx
  exact Shp.int i).ok (by decide)
theorem pure__law_cell {K : PySem.W.Frag} {vs : List V} {H : Hp} {Q : VK} {E : XK} (h : sp__law_cell K vs H Q E) : t__law_cell K (WE1 E) (fin Q) (start ["_law_script", "_law_k"] vs) H := by
  obtain ⟨a, ns, k, rfl, hS, hl, h0, h1, q⟩ := h
  show t__law_cell K _ (fin Q) [some (.ref a), some (.int k)] H
  unfold t__law_cell
  walk_at "go"
  refine x_lst fun e H1 ne he s1 => ?_
  walk_at "go"
  refine x_eqD (.lst (s1.seq hS) (dpAll_ints ns)) (.lst (SqL.of he) .nil) (shaped_ints ns) rfl ?_
  walk_at "go"
  cases ns with
  | nil =>
    refine x_ifT rfl ?_
    walk_at "go"
    refine x_mulI (.inr ⟨by decide, by decide⟩) ?_
    exact q H1 s1
  | cons n r =>
    refine x_ifF rfl ?_
    walk_at "go"
    refine ⟨_, _, rfl, .inl (s1.seq hS), ?_⟩
    have hp : (0 : Int) < ((List.map V.int (n :: r)).length : Int) := by rw [List.length_map, List.length_cons]; omega
    have hL : ((List.map V.int (n :: r)).length : Int) = ((n :: r).length : Int) := by rw [List.length_map]
    refine x_modI hp ?_
    have hm0 := Int.emod_nonneg k (Int.ne_of_gt hp)
    have hm1 := Int.emod_lt_of_pos k hp
    have hm2 : (k % ((List.map V.int (n :: r)).length : Int)).toNat < (n :: r).length := by rw [hL] at hm1 ⊢; omega
    refine x_ixL (v := .int ((n :: r).getD (k % ((List.map V.int (n :: r)).length : Int)).toNat 0)) (s1.seq hS) (atI_of hm0 ?_) ?_
    · rw [List.getElem?_map, List.getElem?_eq_getElem hm2, List.getD_eq_getElem?_getD, List.getElem?_eq_getElem hm2]
      rfl
    walk_at "go"
    refine ⟨_, _, rfl, .inl (s1.seq hS), ?_⟩
    refine x_divI ⟨hp, by rw [hL]; omega⟩ ?_
    walk_at "go"
    refine x_mulI (.inr ⟨by decide, by decide⟩) ?_
    walk_at "go"
    have e : cell (n :: r) k = (n :: r).getD (k % ((List.map V.int (n :: r)).length : Int)).toNat 0 + k / ((List.map V.int (n :: r)).length : Int) * 104729 := by
      unfold cell
      rw [if_neg (by simp), hL]
    rw [← e]
    exact q H1 s1
def drawn (c k : Int) : Int := (((c * 6364136223846793005 + (k + 1) * 1442695040888963407) % 340282366920938463463374607431768211507) * ((c * 6364136223846793005 + (k + 1) * 1442695040888963407) % 340282366920938463463374607431768211507)) % 340282366920938463463374607431768211297
theorem drawn_nn (c k : Int) : 0 ≤ drawn c k ∧ drawn c k < 340282366920938463463374607431768211297 := ⟨Int.emod_nonneg _ (by decide), Int.emod_lt_of_pos _ (by decide)⟩
def sp__law_drawn (K : PySem.W.Frag) : Sp := fun vs H Q E => ∃ (c k : Int), vs = [.int c, .int k] ∧ Q (.int (drawn c k)) H
def t__law_drawn (K : PySem.W.Frag) (W : WX) : TS := uSeq (uAsg (uOp rModI (uOp rAddI (uOp rMulI (tVar 0) (uC (.int 6364136223846793005))) (uOp rMulI (uOp rAddI (tVar 1) (uC (.int 1))) (uC (.int 1442695040888963407)))) (uC (.int 340282366920938463463374607431768211507))) (vName 2))
    (uRet (uOp rModI (uOp rMulX (tVar 2) (tVar 2)) (uC (.int 340282366920938463463374607431768211297))))
theorem pure__law_drawn {K : PySem.W.Frag} {vs : List V} {H : Hp} {Q : VK} {E : XK} (h : sp__law_drawn K vs H Q E) : t__law_drawn K (WE1 E) (fin Q) (start ["_law_cell_here", "_law_k", "_law_more"] vs) H := by
  obtain ⟨c, k, rfl, q⟩ := h
  show t__law_drawn K _ (fin Q) [some (.int c), some (.int k), none] H
  unfold t__law_drawn
  walk_at "go"
  refine x_mulI (.inr ⟨by decide, by decide⟩) ?_
  walk_at "go"
  refine x_mulI (.inr ⟨by decide, by decide⟩) ?_
  walk_at "go"
  refine x_modI (by decide) ?_
  walk_at "go"
  have h0 := Int.emod_nonneg (c * 6364136223846793005 + (k + 1) * 1442695040888963407) (show (340282366920938463463374607431768211507 : Int) ≠ 0 by decide)
  have h1 := Int.emod_lt_of_pos (c * 6364136223846793005 + (k + 1) * 1442695040888963407) (show (0 : Int) < 340282366920938463463374607431768211507 by decide)
  have hb : ((c * 6364136223846793005 + (k + 1) * 1442695040888963407) % 340282366920938463463374607431768211507).natAbs < 2 ^ 129 := by
    have e : (2 : Nat) ^ 129 = 680564733841876926926749214863536422912 := by decide
    rw [e]
    omega
  refine x_mulX (wide_mul hb hb (by decide) (by decide) (by decide)) ?_
  refine x_modI (by decide) ?_
  exact q
/-! ### the word of a refusal -/
def ten : List Str := ["NoThing", "NoDirectory", "BadName", "IsThere", "NoRoom", "NotEmpty", "WrongKind", "TooGreat", "ReadOnly", "NoFiles"]
/-- what the ten classes say -/
structure XK10 (K : PySem.W.Frag) : Prop where
  exc : ∀ d ∈ ten, ExcC K (He.ga K d)
  kit : ∀ d ∈ ten, ∀ x ∈ ten, PySem.W.kitOne K (.ref (He.ga K d)) (.ref (He.ga K x)) = some (decide (d = x))
  kitS : ∀ d ∈ ten, PySem.W.kitOne K (.ref (He.ga K d)) (.ref (He.ga K "StillError")) = some true
  exm : ∀ d ∈ ten, ∀ x ∈ ten, PySem.W.exmOne K (.ref (He.ga K d)) (.ref (He.ga K x)) = some (decide (d = x))
  exmS : ∀ d ∈ ten, PySem.W.exmOne K (.ref (He.ga K d)) (.ref (He.ga K "StillError")) = some true
  kitV : ∀ d ∈ ten, PySem.W.kitOne K (.ref (He.ga K d)) (.type "ValueError") = some true
def sp__law_word (K : PySem.W.Frag) (p : Addr × Obj) : Sp := fun vs H Q E => ∃ d, d ∈ ten ∧ vs = [.ref p.1] ∧ Zc (.ref (He.ga K d)) none p.2 ∧ (∃ vs, p.2.data = .fields vs) ∧ ∀ H', Same H H' → Q (.str d) H'
def t__law_word (K : PySem.W.Frag) (d : Str) (p : Addr × Obj) (W : WX) : TS := uSeq (uAsg (uLst (uCons (uCB (rIsE K (He.ga K d) p.1) (uCons (tVar 0) (uCons (uC (.ref (He.ga K "NoThing"))) uNil))) (uCons (uCB (rIsE K (He.ga K d) p.1) (uCons (tVar 0) (uCons (uC (.ref (He.ga K "NoDirectory"))) uNil))) (uCons (uCB (rIsE K (He.ga K d) p.1) (uCons (tVar 0) (uCons (uC (.ref (He.ga K "BadName"))) uNil))) (uCons (uCB (rIsE K (He.ga K d) p.1) (uCons (tVar 0) (uCons (uC (.ref (He.ga K "IsThere"))) uNil))) uNil))))) (vName 1))
    (uSeq (uAsg (uOp rCat (tVar 1) (uLst (uCons (uCB (rIsE K (He.ga K d) p.1) (uCons (tVar 0) (uCons (uC (.ref (He.ga K "NoRoom"))) uNil))) (uCons (uCB (rIsE K (He.ga K d) p.1) (uCons (tVar 0) (uCons (uC (.ref (He.ga K "NotEmpty"))) uNil))) (uCons (uCB (rIsE K (He.ga K d) p.1) (uCons (tVar 0) (uCons (uC (.ref (He.ga K "WrongKind"))) uNil))) uNil))))) (vName 1))
    (uSeq (uAsg (uOp rCat (tVar 1) (uLst (uCons (uCB (rIsE K (He.ga K d) p.1) (uCons (tVar 0) (uCons (uC (.ref (He.ga K "TooGreat"))) uNil))) (uCons (uCB (rIsE K (He.ga K d) p.1) (uCons (tVar 0) (uCons (uC (.ref (He.ga K "ReadOnly"))) uNil))) (uCons (uCB (rIsE K (He.ga K d) p.1) (uCons (tVar 0) (uCons (uC (.ref (He.ga K "NoFiles"))) uNil))) uNil))))) (vName 1))
    (uSeq (uAsg (uLst (uCons (uC (.str "NoThing")) (uCons (uC (.str "NoDirectory")) (uCons (uC (.str "BadName")) (uCons (uC (.str "IsThere")) (uCons (uC (.str "NoRoom")) (uCons (uC (.str "NotEmpty")) (uCons (uC (.str "WrongKind")) (uCons (uC (.str "TooGreat")) (uCons (uC (.str "ReadOnly")) uNil)))))))))) (vName 2))
    (uSeq (uIfS (uOr (uTest (uOp rNe (uBM K "list" (rCntF K) (tVar 1) (uCons (uC (.bl true)) uNil)) (uC (.int 1)))) (uOr (uNot (uTest (uCB (rIsE K (He.ga K d) p.1) (uCons (tVar 0) (uCons (uC (.ref (He.ga K "StillError"))) uNil))))) (uNot (uTest (uCB (rIsE K (He.ga K d) p.1) (uCons (tVar 0) (uCons (uC (.ty "ValueError")) uNil))))))) (uRet (uC (.str "other"))) uNext)
    (uRet (uOp (rIxL K) (uOp rCat (tVar 2) (uLst (uCons (uC (.str "NoFiles")) uNil))) (uBM K "list" (rIndex K) (tVar 1) (uCons (uC (.bl true)) uNil))))))))
section
variable {K : PySem.W.Frag} {H : Hp} {Q : VK} {D a c : Addr} {b : Bool}
theorem x_isP (h : PySem.W.kitOne K (.ref D) (.ref c) = some b) (q : Q (.bl b) H) : rIsE K D a [.ref a, .ref c] H Q := ⟨.ref c, .ref c, b, rfl, fun _ r => r, h, q⟩
theorem x_isPT {n : String} (h : PySem.W.kitOne K (.ref D) (.type n) = some b) (q : Q (.bl b) H) : rIsE K D a [.ref a, .ty n] H Q := ⟨.ty n, .type n, b, rfl, fun _ r => r, h, q⟩
end
theorem ten_count : ∀ d ∈ ten, ((ten.map fun x => V.bl (decide (d = x))).countP fun z => eqV z (.bl true)) = 1 := by decide +kernel
theorem ten_index : ∀ d ∈ ten, ∃ j, j < 10 ∧ (ten.map fun x => V.bl (decide (d = x)))[j]? = some (.bl true) ∧ (∀ m, m < 10 → m < j → (ten.map fun x => V.bl (decide (d = x)))[m]? = some (.bl false)) ∧ (ten.map V.str)[j]? = some (.str d) := by decide +kernel
theorem pure__law_word {K : PySem.W.Frag} (X : XK10 K) {d : Str} {p : Addr × Obj} (hd : d ∈ ten) {H : Hp} {Q : VK} {E : XK} (q : ∀ H', Same H H' → Q (.str d) H') : t__law_word K d p W0 (fin Q) [some (.ref p.1), none, none] H := by
  have k := X.kit d hd
  unfold t__law_word
  walk_at "go"
  refine x_isP (k "NoThing" (by decide)) ?_
  walk_at "go"
  refine x_isP (k "NoDirectory" (by decide)) ?_
  walk_at "go"
  refine x_isP (k "BadName" (by decide)) ?_
  walk_at "go"
  refine x_isP (k "IsThere" (by decide)) ?_
  walk_at "go"
  refine x_lst fun l1 H1 n1 h1 s1 => ?_
  walk_at "go"
  refine x_isP (k "NoRoom" (by decide)) ?_
  walk_at "go"
  refine x_isP (k "NotEmpty" (by decide)) ?_
  walk_at "go"
  refine x_isP (k "WrongKind" (by decide)) ?_
  walk_at "go"
  refine x_lst fun l2 H2 n2 h2 s2 => ?_
  walk_at "go"
  refine x_cat (by walk_at "hp") h2 (by rw [sizeLine_eq]; exact Nat.le_of_ble_eq_true rfl) fun l3 H3 n3 h3 s3 => ?_
  walk_at "go"
  refine x_isP (k "TooGreat" (by decide)) ?_
  walk_at "go"
  refine x_isP (k "ReadOnly" (by decide)) ?_
  walk_at "go"
  refine x_isP (k "NoFiles" (by decide)) ?_
  walk_at "go"
  refine x_lst fun l4 H4 n4 h4 s4 => ?_
  walk_at "go"
  refine x_cat (by walk_at "hp") h4 (by rw [sizeLine_eq]; exact Nat.le_of_ble_eq_true rfl) fun l5 H5 n5 h5 s5 => ?_
  have h5 : H5 l5 = some (.lst (ten.map fun x => V.bl (decide (d = x)))) := h5
  walk_at "go"
  refine x_lst fun l6 H6 n6 h6 s6 => ?_
  walk_at "go"
  have fl : (ten.map fun x => V.bl (decide (d = x))).all flatV = true := rfl
  refine ⟨l5, _, .bl true, rfl, rfl, SqL.of (by walk_at "hp"), rfl, fl, ?_⟩
  rw [ten_count d hd]
  walk_at "go"
  refine x_ifF rfl ?_
  walk_at "go"
  refine x_isP (X.kitS d hd) ?_
  walk_at "go"
  refine x_ifF rfl ?_
  walk_at "go"
  refine x_isPT (X.kitV d hd) ?_
  walk_at "go"
  refine x_ifF rfl ?_
  walk_at "go"
  refine x_lst fun l7 H7 n7 h7 s7 => ?_
  walk_at "go"
  refine x_cat (by walk_at "hp") h7 (by rw [sizeLine_eq]; exact Nat.le_of_ble_eq_true rfl) fun l8 H8 n8 h8 s8 => ?_
  have h8 : H8 l8 = some (.lst (ten.map V.str)) := h8
  walk_at "go"
  obtain ⟨j, hj, e1, e2, e3⟩ := ten_index d hd
  refine ⟨l5, _, .bl true, j, .bl true, rfl, rfl, SqL.of (by walk_at "hp"), rfl, fl, e1, rfl, fun m z' hm hz => ?_, ?_⟩
  · rw [e2 m (by omega) hm] at hz
    cases hz
    rfl
  · refine x_ixL (SqL.of h8) (atI_of (Int.natCast_nonneg j) (by rw [Int.toNat_natCast]; exact e3)) ?_
    exact q _ (by walk_at "sm")
end SP

set_option Elab.async false
set_option linter.all false
set_option maxRecDepth 100000
set_option maxHeartbeats 4000000
/-! Comprehensions by what their turns make; clauses. -/
namespace SP
open PySem PySem.Spec PyProof.Rows L2
def rLc (J : It) (g : TG) (tt : TT) (te : TE) (vs : List Nat) (σ : L2.St) (H1 : Hp) (Q : VK) : Prop := ∀ D, H1 D = none → ∃ W : Nat → Nat → Hp → Prop, (∃ m, W 0 m (upd H1 D (.lst []))) ∧ ∀ i m H, W i m H →
  (J.stop i H ∧ Q (.ref D) H) ∨ (J.go i H ∧ ∃ Nx : Hp → Prop, (∀ H', Nx H' → ∃ m', m' < m ∧ W (i + 1) m' H') ∧ ∀ x H', J.yld i H x H' → g x (wipe σ vs) H' fun σ2 H2 => wipe σ2 vs = wipe σ vs ∧ tt σ2 H2 fun b H3 =>
    if b = true then te σ2 H3 fun y H4 => ∃ acc, H4 D = some (.lst acc) ∧ acc.length < sizeLine ∧ Nx (upd H4 D (.lst (acc ++ [y]))) else Nx H3)
abbrev uLc (wi : TI) (g : TG) (tt : TT) (te : TE) (vs : List Nat) : TE := fun σ H Q => wi σ H fun J H1 => rLc J g tt te vs σ H1 Q
theorem asSs {X : Cx} {b : List Stmt} {t t' : TS} (h : PSs X b t) (e : t = t') : PSs X b t' := e ▸ h
theorem asE {X : Cx} {e : Expr} {t t' : TE} (h : PE X e t) (q : t = t') : PE X e t' := q ▸ h
theorem asTs {X : Cx} {b : List Expr} {t t' : TT} (h : PTs X b t) (e : t = t') : PTs X b t' := e ▸ h
theorem units65 {k : Nat} {A : Around} (r : Room k A) : A.units + 65 < cLine := by have := r.un; omega
theorem av_upd {D : Addr} {H : Hp} {o : HO} : av [D] (upd H D o) = av [D] H := by
  funext a
  unfold av
  by_cases h : a = D
  · subst h
    simp
  · simp only [List.mem_singleton, h, if_false]
    exact upd_ne h
theorem same_av {D : Addr} {H H' : Hp} (n : H D = none) (s : Same H H') : Same H (av [D] H') := fun a o e => av_at (s a o e) (by
  rw [List.mem_singleton]
  exact ne_of_none e n)
theorem keepNew {ms : List Addr} {H H1 H2 : Hp} (n : ∀ a ∈ ms, H a = none) (s : Same H H1) (k : Keep ms H1 H2) : Same H H2 := fun a o e => k.k a o (fun z => by rw [n a z] at e; cases e) (s a o e)
theorem updNew {H H1 : Hp} {p : Addr} {o : HO} (n : H p = none) (s : Same H H1) : Same H (upd H1 p o) := fun a u e => by
  rw [upd_ne (ne_of_none e n)]
  exact s a u e
section
variable {K : PySem.W.Frag} {σ : L2.St} {H : Hp} {Q : VK} {g : TG} {te : TE} {vs : List Nat}
/-- over a range, nothing left out: F i y, the i-th turn's item is y -/
theorem x_lcR {lo : Int} {n : Nat} (F : Nat → V → Hp → Prop) (mono : ∀ i v H H', Le H H' → F i v H → F i v H') (hn : n ≤ 100000)
    (hs : ∀ i D H' (P : VK), i < n → H D = none → (∃ acc, H' D = some (.lst acc)) → Same H H' → (∀ y H4, Same H' H4 → F i y (av [D] H4) → P y H4) → g (.int (lo + i)) (wipe σ vs) H' fun σ2 H2 => wipe σ2 vs = wipe σ vs ∧ te σ2 H2 P)
    (q : ∀ D H' acc, H D = none → H' D = some (.lst acc) → acc.length = n → Same H H' → (∀ i y, acc[i]? = some y → F i y (av [D] H')) → Q (.ref D) H') :
    rLc (Itr lo n) g tYes te vs σ H Q := by
  intro D nD
  refine lc_range (Qd := fun H' => Q (.ref D) H') (fun i H' => ∃ acc, H' D = some (.lst acc) ∧ acc.length = i ∧ Same H H' ∧ ∀ i y, acc[i]? = some y → F i y (av [D] H')) ⟨[], upd_same, rfl, Same.new nD, fun i y e => by simp at e⟩ (fun i H' hi h => ?_) (fun H' ⟨acc, hd, hl, s, hf⟩ => q D H' acc nD hd hl s hf)
  obtain ⟨acc, hd, hl, s, hf⟩ := h
  simp only [tYes, ↓reduceIte]
  refine hs i D H' _ hi nD ⟨acc, hd⟩ s fun y H4 s4 f4 => ⟨acc, s4 _ _ hd, ?_, acc ++ [y], upd_same, by rw [List.length_append, hl]; rfl, ?_, fun j z ez => ?_⟩
  · rw [sizeLine_eq]
    omega
  · exact updNew nD (s.trans s4)
  · rw [av_upd]
    by_cases c : j < acc.length
    · rw [List.getElem?_append_left c] at ez
      exact mono _ _ _ _ (Same.av s4) (hf j z ez)
    · rw [List.getElem?_append_right (Nat.le_of_not_lt c)] at ez
      have e0 : j - acc.length = 0 := by
        cases h : j - acc.length with
        | zero => rfl
        | succ m => rw [h] at ez; simp at ez
      rw [e0] at ez
      cases ez
      have : j = i := by omega
      subst this
      exact f4
end
/-- items that are told beforehand -/
theorem list_is {f : Nat → V} {acc : List V} {n : Nat} (hl : acc.length = n) (h : ∀ i y, acc[i]? = some y → y = f i) : acc = (List.range n).map f := by
  refine List.ext_getElem? fun i => ?_
  cases e : acc[i]? with
  | none =>
    have : n ≤ i := by rw [← hl]; exact List.getElem?_eq_none_iff.mp e
    rw [List.getElem?_eq_none_iff.mpr (by rw [List.length_map, List.length_range]; exact this)]
  | some y =>
    have hi : i < n := by rw [← hl]; exact (List.getElem?_eq_some_iff.mp e).1
    rw [List.getElem?_map, List.getElem?_range hi, h i y e]
    rfl
section
variable {K : PySem.W.Frag} {c cls : Value} {i : Nat} {ts : Addr → Value → Option Addr → TS} {Wout : WX} {D : Ends} {d : Option Addr} {σ : L2.St} {H : Hp}
theorem x_wAsT (e : PySem.W.exmOne K cls c = some true) (h : ∀ a, H a = none → ts a cls d { nx := fun σ' H' => D.nx (σ'.set i none) H', rt := D.rt, bk := fun σ' H' => D.bk (σ'.set i none) H', ct := fun σ' H' => D.ct (σ'.set i none) H' } (σ.set i (some (.ref a))) H) : wAs K c i ts Wout D cls d σ H :=
  ⟨true, e, fun _ => h, fun z => by cases z⟩
theorem x_wAsF (e : PySem.W.exmOne K cls c = some false) (h : Wout cls d σ H) : wAs K c i ts Wout D cls d σ H :=
  ⟨false, e, fun z => absurd z Bool.false_ne_true, fun _ => h⟩
theorem x_wOnlyT (e : PySem.W.exmOne K cls c = some true) (h : ∀ a, H a = none → ts a cls d D σ H) : wOnly K c ts Wout D cls d σ H :=
  ⟨true, e, fun _ => h, fun z => by cases z⟩
theorem x_wOnlyF (e : PySem.W.exmOne K cls c = some false) (h : Wout cls d σ H) : wOnly K c ts Wout D cls d σ H :=
  ⟨false, e, fun z => absurd z Bool.false_ne_true, fun _ => h⟩
end
end SP

set_option Elab.async false
set_option linter.all false
set_option maxRecDepth 100000
set_option maxHeartbeats 4000000
/-! disk_of; the word of an exception that is caught. -/
namespace SP
open PySem PySem.Spec PyProof.Rows L2 L2H
local macro_rules | `(tactic| walk_at "hp") => `(tactic| first
  | assumption
  | exact upd_same
  | (refine' sameAt ?sA ?hA; (case sA => assumption); (case hA => walk_at "hp"))
  | (refine' Eq.trans (upd_ne ?nA) ?hA; (case nA => walk_at "ne"); (case hA => walk_at "hp")))
local macro_rules | `(tactic| walk_at "ne") => `(tactic| first
  | assumption
  | (refine' Ne.symm ?hA; assumption)
  | (refine' ne_of_none (H := _) ?hA (by assumption); walk_at "hp")
  | (refine' Ne.symm (ne_of_none (H := _) ?hA (by assumption)); walk_at "hp")
  | (refine' ne_of ?hA ?hB ?hC; (case hA => assumption); (case hB => walk_at "hp"); (case hC => (intro z; cases z))))
local macro_rules | `(tactic| walk_at "sm") => `(tactic| first
  | exact Same.refl _
  | assumption
  | (refine' sameTr ?sA ?sB; (case sA => assumption); (case sB => walk_at "sm")))
local macro_rules | `(tactic| walk_at "dm") => `(tactic| first
  | exact dmRefl
  | assumption
  | (refine' dmUpd ?dA; (case dA => walk_at "dm"))
  | (refine' dmSame ?sA ?dA; (case sA => assumption); (case dA => walk_at "dm")))
local macro_rules | `(tactic| walk_at "fr") => `(tactic| first
  | assumption
  | (refine' dmAt ?dA ?hA; (case hA => assumption); (case dA => walk_at "dm")))
local macro_rules | `(tactic| walk_at "ab") => `(tactic| (exfalso; refine absurd ?hA (noneSome ?hB); (case hB => walk_at "hp"); (case hA => assumption)))
local macro_rules | `(tactic| walk_at "kp") => `(tactic| first
  | exact Keep.refl
  | assumption
  | (refine' Keep.trans ?kA (keepUpd ?kB ?kC ?kD); (case kB => simp); (case kC => walk_at "hp"); (case kD => (intro xs z; cases z)); (case kA => walk_at "kp"))
  | (refine' keepTr ?kB ?kA; (case kB => assumption); (case kA => walk_at "kp"))
  | (refine' keepSm ?kB ?kA; (case kB => assumption); (case kA => walk_at "kp")))
local macro_rules | `(tactic| walk_at "get") => `(tactic| first
  | (refine' x_get_Files_state ?T ?h ?_) | (refine' x_get_Thing_kind ?T ?h ?_) | (refine' x_get_Thing_entries ?T ?h ?_) | (refine' x_get_Thing_held ?T ?h ?_)
  | (refine' x_get_Files_disk ?T ?h ?_) | (refine' x_get_Files_kept ?T ?h ?_) | (refine' x_get_Files_used ?T ?h ?_)
  | (refine' x_get_Disk_blocks ?T ?h ?_) | (refine' x_get_Disk_log ?T ?h ?_)
  | (refine' x_get_Reader_row ?T ?h ?_) | (refine' x_get_Reader_at ?T ?h ?_) | (refine' x_get_Reader_good ?T ?h ?_)
  | (refine' x_get_Files_slot ?T ?h ?_) | (refine' x_get_Files_turn ?T ?h ?_) | (refine' x_get_Files_is_new ?T ?h ?_))
local macro_rules | `(tactic| walk_at "set") => `(tactic| first
  | ((with_reducible refine' x_set_Disk_blocks ?T ?h ?_); (case T => assumption); (case h => walk_at "hp"))
  | ((with_reducible refine' i_set_Disk_blocks ?T ?h ?_); (case T => assumption); (case h => walk_at "hp"))
  | ((with_reducible refine' x_set_Disk_log ?T ?h ?_); (case T => assumption); (case h => walk_at "hp"))
  | ((with_reducible refine' i_set_Disk_log ?T ?h ?_); (case T => assumption); (case h => walk_at "hp"))
  | ((with_reducible refine' x_set_Thing_kind ?T ?h ?_); (case T => assumption); (case h => walk_at "hp"))
  | ((with_reducible refine' i_set_Thing_kind ?T ?h ?_); (case T => assumption); (case h => walk_at "hp"))
  | ((with_reducible refine' x_set_Thing_held ?T ?h ?_); (case T => assumption); (case h => walk_at "hp"))
  | ((with_reducible refine' i_set_Thing_held ?T ?h ?_); (case T => assumption); (case h => walk_at "hp"))
  | ((with_reducible refine' x_set_Thing_entries ?T ?h ?_); (case T => assumption); (case h => walk_at "hp"))
  | ((with_reducible refine' i_set_Thing_entries ?T ?h ?_); (case T => assumption); (case h => walk_at "hp"))
  | ((with_reducible refine' x_set_Reader_row ?T ?h ?_); (case T => assumption); (case h => walk_at "hp"))
  | ((with_reducible refine' i_set_Reader_row ?T ?h ?_); (case T => assumption); (case h => walk_at "hp"))
  | ((with_reducible refine' x_set_Reader_at ?T ?h ?_); (case T => assumption); (case h => walk_at "hp"))
  | ((with_reducible refine' i_set_Reader_at ?T ?h ?_); (case T => assumption); (case h => walk_at "hp"))
  | ((with_reducible refine' x_set_Reader_good ?T ?h ?_); (case T => assumption); (case h => walk_at "hp"))
  | ((with_reducible refine' i_set_Reader_good ?T ?h ?_); (case T => assumption); (case h => walk_at "hp"))
  | ((with_reducible refine' x_set_Files_disk ?T ?h ?_); (case T => assumption); (case h => walk_at "hp"))
  | ((with_reducible refine' i_set_Files_disk ?T ?h ?_); (case T => assumption); (case h => walk_at "hp"))
  | ((with_reducible refine' x_set_Files_state ?T ?h ?_); (case T => assumption); (case h => walk_at "hp"))
  | ((with_reducible refine' i_set_Files_state ?T ?h ?_); (case T => assumption); (case h => walk_at "hp"))
  | ((with_reducible refine' x_set_Files_kept ?T ?h ?_); (case T => assumption); (case h => walk_at "hp"))
  | ((with_reducible refine' i_set_Files_kept ?T ?h ?_); (case T => assumption); (case h => walk_at "hp"))
  | ((with_reducible refine' x_set_Files_slot ?T ?h ?_); (case T => assumption); (case h => walk_at "hp"))
  | ((with_reducible refine' i_set_Files_slot ?T ?h ?_); (case T => assumption); (case h => walk_at "hp"))
  | ((with_reducible refine' x_set_Files_turn ?T ?h ?_); (case T => assumption); (case h => walk_at "hp"))
  | ((with_reducible refine' i_set_Files_turn ?T ?h ?_); (case T => assumption); (case h => walk_at "hp"))
  | ((with_reducible refine' x_set_Files_used ?T ?h ?_); (case T => assumption); (case h => walk_at "hp"))
  | ((with_reducible refine' i_set_Files_used ?T ?h ?_); (case T => assumption); (case h => walk_at "hp"))
  | ((with_reducible refine' x_set_Files_is_new ?T ?h ?_); (case T => assumption); (case h => walk_at "hp"))
  | ((with_reducible refine' i_set_Files_is_new ?T ?h ?_); (case T => assumption); (case h => walk_at "hp")))
local macro_rules | `(tactic| walk_at "go1") => `(tactic| first
  | ((with_reducible refine w_var (v := ?vv) ?e ?_); (case e => rfl))
  | ((with_reducible walk_at "get"); (case T => assumption); (case h => walk_at "hp"))
  | (with_reducible refine x_bl ?_)
  | (with_reducible refine x_isN ?_) | (with_reducible refine x_notN ?_) | (with_reducible refine x_eqI ?_) | (with_reducible refine x_neI ?_) | (with_reducible refine x_eqS ?_) | (with_reducible refine x_neS ?_)
  | (with_reducible refine x_addI ?_) | (with_reducible refine x_subI ?_) | (with_reducible refine x_ltI ?_) | (with_reducible refine x_leI ?_) | (with_reducible refine x_gtI ?_) | (with_reducible refine x_geI ?_)
  | (with_reducible refine x_bv ?_) | (with_reducible refine x_part ?_) | (with_reducible refine x_neg ?_) | (with_reducible refine x_inS ?_)
  | (walk_at "set")
  | ((with_reducible refine' x_bmL ?h ?_); (case h => walk_at "hp")) | ((with_reducible refine' x_bmL0 ?h ?_); (case h => walk_at "hp")))
local macro_rules | `(tactic| walk_at "go") => `(tactic| ((try with_reducible (conv => whnf)); repeat ((walk_at "go1"); (try with_reducible (conv => whnf)))))
abbrev uWordS (K : PySem.W.Frag) (a : Addr) (cls : Value) (dd : Option Addr) (t : TA) : TE := fun σ H Q => t σ H fun vs H1 => ∃ d, d ∈ ten ∧ vs = [.ref a] ∧ cls = .ref (He.ga K d) ∧ dd = none ∧ ∀ H2, Same H1 H2 → Q (.str d) H2
section
variable {X : Cx} {k : Nat} {f : Addr} {fd : FuncData} {ps : List Str} {x : Str} {q pos : Pos} {e : Expr} {es : List Expr} {t : TA} {a : Addr} {oe : Obj} {cls : Value} {dd : Option Addr}
theorem pe_wordS (F : FnP X.prog X.w X.K X.mg X.base k f fd ps (sp__law_word X.K)) (hr : RoomH k X.A) (hp : (a, oe) ∈ X.pn) (hz : Zc cls dd oe) (hf : ∃ vs, oe.data = .fields vs) (hm : X.mg x = some (.ref f)) (hk : PySem.W.keepIn X.K (.ref f) = true) (hb : Binds X.K fd ps [])
    (ha : PA X (e :: es) t) (hg : Gl X x := by rfl) (hdb : (x == ("__debug__" : Str)) = false := by decide) (he : starEach (e :: es) X.env = (false, eval e X.env) :: starEach es X.env := by rfl) (hpl : (backTo pos (starEach es X.env)).any (·.1) = false := by rfl) :
    PE X (.Call (.Name x q) (e :: es) [] pos) (uWordS X.K a cls dd t) := by
  refine ⟨fun pins s σ H Q I h => ?_⟩
  refine wpAny_Call_Name_kw (ld_glob I hg hm ?_ hdb)
  refine PySem.W.callWith_K (h₀ := X.base) I.ok.mod.kin hk (thn (ha.run pos pins s σ H _ I h) fun us s1 ⟨vs, H1, I1, r, q0⟩ => ⟨I1.kIn, ?_⟩) he hpl
  obtain ⟨d, hd, ev, ec, en, q⟩ := q0
  have hsp : sp__law_word X.K (a, oe) vs H1 Q fun _ _ _ => False := ⟨d, hd, ev, by rw [← ec, ← en]; exact hz, hf, q⟩
  have hl : us.length = ps.length := by rw [← r.length]; exact F.len _ _ _ _ _ hsp
  have b := hb s1 us I1.kIn (by rw [List.append_nil]; exact hl)
  rw [List.append_nil] at b
  have P1 := I1.pin (a, oe) (List.mem_append_left _ hp)
  have hpin : PinOk X.stack H1 s1 (a, oe) := ⟨P1.1, P1.2.1, fun hm => (List.mem_cons.mp (I1.stkSub a hm)).elim P1.2.2.1 P1.2.2.2.1, P1.2.2.2.2⟩
  refine wpAny_call (codeAny_mono (F.run X.A X.stack s1 H1 ⟨us, []⟩ us vs Q _ (a, oe) hr hpin I1.env0 b r hsp) fun r s' hq => ?_)
  cases r with
  | error e => exact (passAt (W := fun _ _ _ _ => False) takes0 σ pins H1 s1 e s' I1 hq)
  | ok fl =>
    cases fl with
    | ret u => exact I1.after hq
    | next => exact False.elim hq
    | brk => exact False.elim hq
    | cont => exact False.elim hq
end
/-! ### data of disks -/
def dblk : Option (List Int) → PyData
  | none => .none
  | some b => .tuple (b.map .int)
def dB (B : List (Option (List Int))) : PyData := .list (B.map dblk)
def dent : Ent → PyData
  | .wr n b => .tuple [.str "write", .int n, .tuple (b.map .int)]
  | .bar => .tuple [.str "barrier"]
def dL (E : List Ent) : PyData := .list (E.map dent)
theorem shp_is {n : Nat} (b : List Int) : ∀ x ∈ b.map PyData.int, Shp n x := fun x hx => by
  obtain ⟨i, _, rfl⟩ := List.mem_map.mp hx
  exact Shp.int i
theorem shp_t {n : Nat} {xs : List PyData} (h : ∀ x ∈ xs, Shp n x) : Shp (n + 1) (.tuple xs) := Shp.tuple h
theorem shp_blk (b : Option (List Int)) : Shp 1 (dblk b) := by
  cases b with
  | none => exact Shp.none
  | some b => exact shp_t (n := 0) (shp_is b)
theorem Shp.str {n : Nat} {z : Str} (h : PyData.strOk z = true) : Shp n (.str z) := ⟨by simp [PyData.canLay0, h], by simp [PyData.depth]⟩
theorem shp_ent (e : Ent) : Shp 2 (dent e) := by
  cases e with
  | bar =>
    refine (shp_t (n := 0) fun x hx => ?_).mono (by decide)
    rw [List.mem_singleton.mp hx]
    exact Shp.str (by decide +kernel)
  | wr n b =>
    refine shp_t (n := 1) fun x hx => ?_
    rcases List.mem_cons.mp hx with e | hx
    · rw [e]; exact Shp.str (by decide +kernel)
    rcases List.mem_cons.mp hx with e | hx
    · rw [e]; exact Shp.int _
    rw [List.mem_singleton.mp hx]
    exact shp_blk (some b)
theorem shp_B (B : List (Option (List Int))) : Shp 2 (dB B) := Shp.list fun x hx => by
  obtain ⟨b, _, rfl⟩ := List.mem_map.mp hx
  exact shp_blk b
theorem shp_L (E : List Ent) : Shp 3 (dL E) := Shp.list fun x hx => by
  obtain ⟨b, _, rfl⟩ := List.mem_map.mp hx
  exact shp_ent b
theorem eqv_same {n : Nat} {d : PyData} (h : Shp n d) : PyData.eqv d d = true := SeqAt.eqv_refl d h.c
theorem dp_blk {K : PySem.W.Frag} {H : Hp} {v : V} {b : Option (List Int)} (h : BlkV H v b) : Dp K H v (dblk b) := by
  cases b with
  | none => rw [show v = .non from h]; exact .non
  | some b =>
    obtain ⟨p, rfl, e⟩ := h
    exact .tup (SqT.of e) (dpAll_ints b)
theorem dp_ent {K : PySem.W.Frag} {H : Hp} {v : V} {e : Ent} (h : EntV H v e) : Dp K H v (dent e) := by
  cases e with
  | bar =>
    obtain ⟨p, rfl, e⟩ := h
    exact .tup (SqT.of e) (.cons (.str _) .nil)
  | wr n b =>
    obtain ⟨p, q, rfl, e, f⟩ := h
    exact .tup (SqT.of e) (.cons (.str _) (.cons (.int _) (.cons (.tup (SqT.of f) (dpAll_ints b)) .nil)))
theorem dpAll_of {α : Type} {K : PySem.W.Frag} {H : Hp} {F : V → α → Prop} {g : α → PyData} (h : ∀ v a, F v a → Dp K H v (g a)) : ∀ {vs : List V} {as : List α}, Paired F vs as → DpAll K H vs (as.map g)
  | _, _, .nil => .nil
  | _, _, .cons a t => .cons (h _ _ a) (dpAll_of h t)
/-- a list of blocks -/
def BlksAt (H : Hp) (u : Addr) (B : List (Option (List Int))) : Prop := ∃ vs, H u = some (.lst vs) ∧ Paired (BlkV H) vs B
def EntsAt (H : Hp) (u : Addr) (E : List Ent) : Prop := ∃ vs, H u = some (.lst vs) ∧ Paired (EntV H) vs E
theorem dp_B {K : PySem.W.Frag} {H : Hp} {u : Addr} {B : List (Option (List Int))} (h : BlksAt H u B) : Dp K H (.ref u) (dB B) := by
  obtain ⟨vs, e, p⟩ := h
  exact .lst (SqL.of e) (dpAll_of (g := dblk) (fun _ _ h => dp_blk h) p)
theorem dp_L {K : PySem.W.Frag} {H : Hp} {u : Addr} {E : List Ent} (h : EntsAt H u E) : Dp K H (.ref u) (dL E) := by
  obtain ⟨vs, e, p⟩ := h
  exact .lst (SqL.of e) (dpAll_of (g := dent) (fun _ _ h => dp_ent h) p)
theorem BlksAt.keep {H H' : Hp} {u : Addr} {B : List (Option (List Int))} {ms : List Addr} (h : BlksAt H u B) (k : Keep ms H H') (n : u ∉ ms) : BlksAt H' u B := by
  obtain ⟨vs, e, p⟩ := h
  exact ⟨vs, k.k _ _ n e, L2.Paired.mapP p fun _ _ z => z.tu k.t⟩
theorem EntsAt.keep {H H' : Hp} {u : Addr} {E : List Ent} {ms : List Addr} (h : EntsAt H u E) (k : Keep ms H H') (n : u ∉ ms) : EntsAt H' u E := by
  obtain ⟨vs, e, p⟩ := h
  exact ⟨vs, k.k _ _ n e, L2.Paired.mapP p fun _ _ z => z.tu k.t⟩
theorem BlksAt.same {H H' : Hp} {u : Addr} {B : List (Option (List Int))} (h : BlksAt H u B) (s : Same H H') : BlksAt H' u B := h.keep (ms := []) (Keep.of s) (by simp)
theorem EntsAt.same {H H' : Hp} {u : Addr} {B : List Ent} (h : EntsAt H u B) (s : Same H H') : EntsAt H' u B := h.keep (ms := []) (Keep.of s) (by simp)
theorem DiskAt.bs {K : PySem.W.Frag} {H : Hp} {d bl lg : Addr} {B : List (Option (List Int))} {E : List Ent} (D : DiskAt K H d bl lg B E) : BlksAt H bl B := D.b
theorem DiskAt.ls {K : PySem.W.Frag} {H : Hp} {d bl lg : Addr} {B : List (Option (List Int))} {E : List Ent} (D : DiskAt K H d bl lg B E) : EntsAt H lg E := D.l
theorem BlksAt.ne {H : Hp} {u a : Addr} {B : List (Option (List Int))} (h : BlksAt H u B) (n : H a = none) : u ≠ a := by
  obtain ⟨vs, e, _⟩ := h
  exact ne_of_none e n
theorem EntsAt.ne {H : Hp} {u a : Addr} {B : List Ent} (h : EntsAt H u B) (n : H a = none) : u ≠ a := by
  obtain ⟨vs, e, _⟩ := h
  exact ne_of_none e n
/-- one block of a list is set -/
theorem BlksAt.set {H : Hp} {u : Addr} {B : List (Option (List Int))} {vs : List V} {v : V} {b : Option (List Int)} (e : H u = some (.lst vs)) (p : Paired (BlkV H) vs B) (r : BlkV H v b) (i : Nat) : BlksAt (upd H u (.lst (vs.set i v))) u (B.set i b) := by
  have k : Keep [u] H (upd H u (.lst (vs.set i v))) := keepUpd (by simp) e (fun xs z => by cases z)
  exact ⟨_, upd_same, paired_set (r.tu k.t) i (L2.Paired.mapP p fun _ _ z => z.tu k.t)⟩
/-! ### disk_of -/
def sp_disk_of (K : PySem.W.Frag) : Sp := fun vs H Q E => ∃ (u : Addr) (B : List (Option (List Int))), vs = [.ref u] ∧ BlksAt H u B ∧ 16 ≤ B.length ∧ B.length ≤ 256 ∧
  ∀ d bl lg H', H d = none → H bl = none → H lg = none → Same H H' → DiskAt K H' d bl lg B [] → Q (.ref d) H'
def t_disk_of (K : PySem.W.Frag) (W : WX) : TS := uSeq (uAsg (uMakeW (He.ga K "Disk") (sp_Disk___init__ K) W (uCons (uCB (cLenQ K) (uCons (tVar 0) uNil)) uNil)) (vName 1))
    (uSeq (uFor (jRng1 (uCons (uCB (cLenQ K) (uCons (tVar 0) uNil)) uNil)) (vName 2) (uAsg (uOp (rIxL K) (tVar 0) (tVar 2)) (vSub (uFld K (tVar 1) "blocks") (tVar 2) rSetL)))
    (uRet (tVar 1)))
theorem take_rep {α : Type} {B : List α} {x : α} {i : Nat} {b : α} (h : B[i]? = some b) : (B.take i ++ List.replicate (B.length - i) x).set i b = B.take (i + 1) ++ List.replicate (B.length - (i + 1)) x := by
  have hi := (List.getElem?_eq_some_iff.mp h).1
  have e : B.length - i = B.length - (i + 1) + 1 := by omega
  rw [e, List.replicate_succ, List.set_append_right _ _ (by rw [List.length_take]; omega), List.length_take, Nat.min_eq_left (Nat.le_of_lt hi), Nat.sub_self, List.set_cons_zero, List.take_add_one, h]
  simp
theorem pure_disk_of {K : PySem.W.Frag} (T : PxDisk K) {vs : List V} {H : Hp} {Q : VK} {E : XK} (h : sp_disk_of K vs H Q E) : t_disk_of K (WE1 E) (fin Q) (start ["blocks", "disk", "number"] vs) H := by
  obtain ⟨u, B, rfl, ⟨vs, hu, pu⟩, h1, h2, k⟩ := h
  have lv : vs.length = B.length := Paired.len pu
  show t_disk_of K _ (fin Q) [some (.ref u), none, none] H
  unfold t_disk_of
  walk_at "go"
  refine x_lenL hu ?_
  walk_at "go"
  refine x_make fun d dx H1 nd hd s1 => ?_
  refine ⟨d, dx, _, rfl, hd, ?_⟩
  rw [if_pos (by omega)]
  intro bl lg H2 nb nl k1 D2
  refine ⟨rfl, ?_⟩
  have s2 : Same H H2 := keepNew (fun a ha => by rw [List.mem_singleton.mp ha]; exact nd) s1 k1
  have nb0 := s1.free nb
  have nl0 := s1.free nl
  walk_at "go"
  refine x_lenL (s2 _ _ hu) ?_
  walk_at "go"
  refine x_rng1 (by omega) (by omega) ?_
  refine x_forR (fun i σ H' => (∃ o, σ = [some (.ref u), some (.ref d), o]) ∧ Same H H' ∧ DiskAt K H' d bl lg (B.take i ++ List.replicate (B.length - i) (some (List.replicate 64 0))) []) ⟨⟨_, rfl⟩, s2, ?_⟩ (fun i σ H' hi h => ?_) (fun σ H' h => ?_)
  · have e : (List.replicate (Int.toNat (vs.length : Int)) (some (List.replicate 64 (0 : Int)))) = B.take 0 ++ List.replicate (B.length - 0) (some (List.replicate 64 0)) := by
      rw [Int.toNat_natCast, lv]; rfl
    rw [← e]
    exact D2
  · obtain ⟨⟨o, rfl⟩, s, ⟨⟨ex, ho⟩, ⟨ws, hb, pb⟩, hl, ne⟩⟩ := h
    have hi2 : i < B.length := by rw [← lv]; omega
    have ei : ((0 : Int) + (i : Int)).toNat = i := by omega
    obtain ⟨v, hv, bv⟩ := paired_at (i := i) pu (List.getElem?_eq_getElem hi2)
    walk_at "go"
    refine x_ixL (SqL.of (s _ _ hu)) (atI_of (by omega) (by rw [ei]; exact hv)) ?_
    walk_at "go"
    have lw : ws.length = B.length := by
      rw [Paired.len pb, List.length_append, List.length_take, List.length_replicate]
      omega
    refine x_setL hb (ixN_nat (by omega) (by rw [ei, lw]; exact hi2)) ?_
    rw [ei]
    have kk : Keep [bl] H' (upd H' bl (.lst (ws.set i v))) := keepUpd (by simp) hb (fun xs z => by cases z)
    refine ⟨⟨_, rfl⟩, updNew nb0 s, ⟨ex, ?_⟩, ?_, EntsAt.keep hl kk (by simp [Ne.symm ne]), ne⟩
    · rw [upd_ne (ne_of ho hb (by intro z; cases z))]
      exact ho
    · have := BlksAt.set hb pb (bv.tu (fun a xs e => s a _ e)) i
      rw [take_rep (List.getElem?_eq_getElem hi2)] at this
      exact this
  · obtain ⟨⟨o, rfl⟩, s, D⟩ := h
    walk_at "go"
    refine k d bl lg H' nd nb0 nl0 s ?_
    have e : B.take (Int.toNat (vs.length : Int)) ++ List.replicate (B.length - (Int.toNat (vs.length : Int))) (some (List.replicate 64 0)) = B := by
      rw [Int.toNat_natCast, lv, Nat.sub_self, List.take_length]
      simp
    rw [e] at D
    exact D
end SP

set_option Elab.async false
set_option linter.all false
set_option maxRecDepth 100000
set_option maxHeartbeats 0
/-! A head in parts: the facts of the top are asked in chunks, each by a run of its own. -/
namespace HQ
open PySem PySem.W PySem.Calls PyProof.Rows HandSHeadRun
structure Chk where
  fa : List He.Fa
  fn : List He.DefD
  tf : List He.Defn
  ex : PySem.W.Frag → Bool
def Chk.obs (c : Chk) (g : Addr → Option Obj) : He.AlX := He.obsX 5 c.fa c.fn [] c.tf c.ex g
def Chk.val (c : Chk) (w : World) : He.AlX := He.valX c.fn [] w
def Chk.says (c : Chk) (w : World) (h : Heap) (K : PySem.W.Frag) : Prop := He.SaysX c.fa c.fn [] c.tf c.ex w h K
def hookQ (cs : List Chk) : PySem.W.Hook where
  α := List He.AlX
  obs := fun s => cs.map fun c => c.obs s.heap.get?
  val := fun w => cs.map fun c => c.val w
  says := fun w h => ∃ K : PySem.W.Frag, K.In h ∧ ∀ c ∈ cs, c.says w h K
  of := fun w s e => ⟨_, He.frT_in, fun c hc => He.saysX_of (List.map_inj_left.mp e c hc)⟩
  keeps := fun _ _ _ ⟨K, hK, z⟩ k => ⟨K, PySem.W.Frag.In.keeps hK k, fun c hc => ⟨(z c hc).t, (z c hc).more, (z c hc).hd, (z c hc).out, fun p hp => k _ _ ((z c hc).empty p hp)⟩⟩
def obQ (cs : List Chk) (s : PySem.W.SharedT) : List He.AlX := cs.map fun c => c.obs (HandSHeadRun.getT s)
theorem obQ_eq (cs : List Chk) (s : PySem.W.SharedT) : obQ cs s = (hookQ cs).obs s.abs := by
  have e : HandSHeadRun.getT s = s.abs.heap.get? := funext (HandSHeadRun.getT_eq s)
  show (cs.map fun c => c.obs (HandSHeadRun.getT s)) = cs.map fun c => c.obs s.abs.heap.get?
  rw [e]
noncomputable abbrev End (R : PySem.W.OpenRow) (M : Nat) (w : World) (os : OsState) : Option PySem.W.SharedT := endF (stepQ (denQ tabQ) R.prog w) M R.prog w os
abbrev RunL (R : PySem.W.OpenRow) (M : Nat) : Prop := ∀ (w : World) (os : OsState), (End R M w os).map (fun s => looksF R.prog (boot_heap w.params) s.abs) = some true
abbrev RunS (R : PySem.W.OpenRow) (M : Nat) (q : Program) (names : List PySem.Str) : Prop := ∀ (w : World) (os : OsState), (End R M w os).map (fun s => seenQ q names (importedModules R.prog.main.body) (fun s => xlAt q [] s && recOk R.toRowW.records s) s.abs) = some (openGood q names)
abbrev RunC (R : PySem.W.OpenRow) (M : Nat) (c : Chk) : Prop := ∀ (w : World) (os : OsState), (End R M w os).map (fun s => c.obs (getT s)) = some (c.val w)
theorem join {R : PySem.W.OpenRow} {M : Nat} {q : Program} {names : List PySem.Str} {cs : List Chk} (a : RunL R M) (b : RunS R M q names) (c : ∀ x ∈ cs, RunC R M x) (w : World) : HandSHeadRun.RunEq R q (hookQ cs) (obQ cs) M names w := by
  intro os
  have ha := a w os
  have hb := b w os
  have hc := fun x hx => c x hx w os
  show (End R M w os).map _ = _
  cases e : End R M w os with
  | none =>
    rw [e] at ha
    cases ha
  | some s =>
    rw [e] at ha hb
    have h1 := Option.some.inj ha
    have h2 := Option.some.inj hb
    have h3 : obQ cs s = (hookQ cs).val w := List.map_inj_left.mpr fun x hx => by
      have z := hc x hx
      rw [e] at z
      exact Option.some.inj z
    exact congrArg some (Prod.ext h1 (Prod.ext h2 h3))
end HQ
namespace SP
open PySem PySem.Spec PyProof.Rows L2 L2H
/-! ### the ten classes -/
def ten11 : List Str := "StillError" :: ten
def isSm (o : Option Bool) : Bool := match o with
  | some true => true
  | _ => false
theorem isSm_ok {o : Option Bool} (h : isSm o = true) : o = some true := by
  match o, h with
  | some true, _ => rfl
def excB (K : PySem.W.Frag) (D : Addr) : Bool :=
  decide (PySem.W.findIn K (.ref D) "__getattribute__" = some (some (.builtin "BaseException.__getattribute__"))) && (decide (PySem.W.findIn K (.ref D) "__getattr__" = some none) && (isSm (PySem.W.subIn K (.ref D) (.type "BaseException")) && (PySem.W.hasDictIn K D && (decide (PySem.W.findIn K (.ref D) "__class__" = some (some (.builtin "object.__class__"))) &&
  (decide (PySem.W.specialIn K (.builtin "object.__class__") "__get__" = some (some (.builtin "getset_descriptor.__get__"))) && (isSm (PySem.W.takesIn K (.builtin "object.__class__")) && isSm (PySem.W.mroIn K D (.type "object"))))))))
theorem excB_ok {K : PySem.W.Frag} {D : Addr} (h : excB K D = true) : ExcC K D := by
  unfold excB at h
  simp only [Bool.and_eq_true, decide_eq_true_eq] at h
  obtain ⟨h1, h2, h3, h4, h5, h6, h7, h8⟩ := h
  exact ⟨h1, h2, isSm_ok h3, h4, h5, h6, isSm_ok h7, isSm_ok h8⟩
def xk1 (K : PySem.W.Frag) (d : Str) : Bool := excB K (He.ga K d) && (isSm (PySem.W.kitOne K (.ref (He.ga K d)) (.ref (He.ga K "StillError"))) && (isSm (PySem.W.exmOne K (.ref (He.ga K d)) (.ref (He.ga K "StillError"))) && isSm (PySem.W.kitOne K (.ref (He.ga K d)) (.type "ValueError"))))
def xk2 (K : PySem.W.Frag) (d x : Str) : Bool := decide (PySem.W.kitOne K (.ref (He.ga K d)) (.ref (He.ga K x)) = some (decide (d = x))) && decide (PySem.W.exmOne K (.ref (He.ga K d)) (.ref (He.ga K x)) = some (decide (d = x)))
def xk (K : PySem.W.Frag) : Bool := (ten.all fun d => xk1 K d) && ten.all fun d => ten.all fun x => xk2 K d x
theorem xk_ok {K : PySem.W.Frag} (h : xk K = true) : XK10 K := by
  unfold xk at h
  obtain ⟨h1, h2⟩ := Bool.and_eq_true_iff.mp h
  have k1 := fun d hd => List.all_eq_true.mp h1 d hd
  have k2 := fun d hd x hx => List.all_eq_true.mp (List.all_eq_true.mp h2 d hd) x hx
  unfold xk1 at k1
  unfold xk2 at k2
  simp only [Bool.and_eq_true, decide_eq_true_eq] at k1 k2
  exact ⟨fun d hd => excB_ok (k1 d hd).1, fun d hd x hx => (k2 d hd x hx).1, fun d hd => isSm_ok (k1 d hd).2.1, fun d hd x hx => (k2 d hd x hx).2, fun d hd => isSm_ok (k1 d hd).2.2.1, fun d hd => isSm_ok (k1 d hd).2.2.2⟩
theorem excx {K : PySem.W.Frag} {h : Heap} {mg : Str → Option Value} {x : Str} (X : K.In h) (G : h.Ns mainGlobals mg) (g : He.Fa.ok K (.glo x) = true) (e : He.Fa.ok K (.exc x) = true) : ExcX K mg x := by
  have e2 : (PySem.W.excIn K (He.ga K x) He.veBase "ValueError.__new__" && (PySem.W.keepIn K (.ref (He.ga K x)) && (decide (PySem.W.subIn K (.ref (He.ga K x)) (.type "BaseException") = some true) && decide (PySem.W.typeIn K (.ref (He.ga K x)) = some (.type "type"))))) = true := e
  simp only [Bool.and_eq_true, decide_eq_true_eq] at e2
  obtain ⟨h1, h2, h3, h4⟩ := e2
  exact ⟨He.glo_ok X G g, h1, h2, h3, h4⟩
end SP

set_option Elab.async false
set_option linter.all false
set_option maxRecDepth 100000
set_option maxHeartbeats 4000000
/-! Dicts, texts, walks by name. -/
namespace SP
open PySem PySem.Spec PyProof.Rows L2
/-! ### calls by name -/
def cSortDS : List V → Hp → VK → Prop := fun xs H Q => ∃ (a : Addr) (kvs : List (Key × V)) (ks : List Str), xs = [.ref a] ∧ Rd H a (.dK kvs) ∧ kvs.map (·.1) = ks.map Sum.inr ∧ ks.length < 64 ∧
  ∀ ys p, ys.Perm ks → sortedS ys = true → H p = none → Q (.ref p) (upd H p (.lst (ys.map V.str)))
theorem call_sortedDn {X : Cx} (hc : X.calm = true) : CallR X (.builtin "sorted") cSortDS := call_sortedD hc
def cSortDI : List V → Hp → VK → Prop := fun xs H Q => ∃ (a : Addr) (kvs : List (Key × V)) (ks : List Int), xs = [.ref a] ∧ Rd H a (.dK kvs) ∧ kvs.map (·.1) = ks.map Sum.inl ∧ ks.length < 64 ∧
  ∀ (ys : List Int) (p : Addr), ys.Perm ks → ys.Pairwise (· ≤ ·) → H p = none → Q (.ref p) (upd H p (.lst (ys.map V.int)))
theorem call_sortedDIn {X : Cx} (hc : X.calm = true) : CallR X (.builtin "sorted") cSortDI := call_sortedDI hc
def cDictD : List V → Hp → VK → Prop := fun xs H Q => ∃ (a : Addr) (kvs : List (Key × V)), xs = [.ref a] ∧ Rd H a (.dK kvs) ∧ ∀ p, H p = none → Q (.ref p) (upd H p (.dK kvs))
theorem call_dictDn {X : Cx} : CallR X (.type "dict") cDictD := call_dictD
def rSplitS : V → List V → Hp → VK → Prop := fun x xs H Q => ∃ a b, x = .str a ∧ xs = [.str b] ∧ (b.length == 0) = false ∧ a.length + 2 ≤ sizeLine ∧ rNewStrs (Txt.split a b) H Q
section
variable {K : PySem.W.Frag} {σ : L2.St} {H : Hp} {Q : VK} {g : TG} {te : TE} {tt : TT} {vs : List Nat}
theorem x_sortDS {a : Addr} {kvs : List (Key × V)} {ks : List Str} (h : Rd H a (.dK kvs)) (e : kvs.map (·.1) = ks.map Sum.inr) (hl : ks.length < 64) (q : ∀ ys p H', ys.Perm ks → sortedS ys = true → H p = none → H' p = some (.lst (ys.map V.str)) → Same H H' → Q (.ref p) H') : cSortDS [.ref a] H Q :=
  ⟨a, kvs, ks, rfl, h, e, hl, fun ys p h1 h2 hp => q ys p _ h1 h2 hp upd_same (Same.new hp)⟩
theorem x_sortDI {a : Addr} {kvs : List (Key × V)} {ks : List Int} (h : Rd H a (.dK kvs)) (e : kvs.map (·.1) = ks.map Sum.inl) (hl : ks.length < 64) (q : ∀ (ys : List Int) p H', ys.Perm ks → ys.Pairwise (· ≤ ·) → H p = none → H' p = some (.lst (ys.map V.int)) → Same H H' → Q (.ref p) H') : cSortDI [.ref a] H Q :=
  ⟨a, kvs, ks, rfl, h, e, hl, fun ys p h1 h2 hp => q ys p _ h1 h2 hp upd_same (Same.new hp)⟩
theorem x_dictD {a : Addr} {kvs : List (Key × V)} (h : Rd H a (.dK kvs)) (q : ∀ p H', H p = none → H' p = some (.dK kvs) → Same H H' → Q (.ref p) H') : cDictD [.ref a] H Q := ⟨a, kvs, rfl, h, x_new q⟩
theorem x_split {a b : Str} (hb : (b.length == 0) = false) (ha : a.length + 2 ≤ sizeLine) (q : ∀ p H', H p = none → H' p = some (.lst ((Txt.split a b).map V.str)) → Same H H' → Q (.ref p) H') : rSplitS (.str a) [.str b] H Q := ⟨a, b, rfl, rfl, hb, ha, x_new q⟩
/-- a comprehension, its turns told by a walk -/
theorem x_lcW {J : It} {n : Nat} {G : Hp → Prop} {Y : Nat → Hp → V → Hp → Prop} (w : Walk J n G Y) (Pv : Nat → List V → Hp → Prop) (mono : ∀ i acc H H', Le H H' → Pv i acc H → Pv i acc H')
    (hG : ∀ H', Same H H' → G H') (hn : n ≤ 100000) (h0 : Pv 0 [] H)
    (hs : ∀ i x D H' H'' acc (P : VK) (P0 : Hp → Prop), i < n → H D = none → H' D = some (.lst acc) → Same H H' → Pv i acc (av [D] H') → Y i H' x H'' →
      (∀ y H4, Same H' H4 → Pv (i + 1) (acc ++ [y]) (av [D] H4) → P y H4) → (∀ H4, Same H' H4 → Pv (i + 1) acc (av [D] H4) → P0 H4) →
      g x (wipe σ vs) H'' fun σ2 H2 => wipe σ2 vs = wipe σ vs ∧ tt σ2 H2 fun b H3 => if b = true then te σ2 H3 P else P0 H3)
    (q : ∀ D H' acc, H D = none → H' D = some (.lst acc) → acc.length ≤ n → Same H H' → Pv n acc (av [D] H') → Q (.ref D) H') : rLc J g tt te vs σ H Q := by
  intro D nD
  refine lc_it w (Qd := fun H' => Q (.ref D) H') (fun i H' => ∃ acc, H' D = some (.lst acc) ∧ acc.length ≤ i ∧ Same H H' ∧ Pv i acc (av [D] H')) ⟨[], upd_same, Nat.le_refl _, Same.new nD, mono _ _ _ _ (Same.le (same_av nD (Same.new nD))) h0⟩ (fun i H' _ ⟨acc, _, _, s, _⟩ => hG H' s) ?_ (fun H' ⟨acc, hd, hl, s, hf⟩ => q D H' acc nD hd hl s hf)
  intro i x H' H'' hi h hy
  obtain ⟨acc, hd, hl, s, hf⟩ := h
  refine hs i x D H' H'' acc _ _ hi nD hd s hf hy (fun y H4 s4 f4 => ⟨acc, s4 _ _ hd, ?_, acc ++ [y], upd_same, ?_, updNew nD (s.trans s4), by rw [av_upd]; exact f4⟩) fun H4 s4 f4 => ⟨acc, s4 _ _ hd, Nat.le_succ_of_le hl, s.trans s4, f4⟩
  · rw [sizeLine_eq]
    omega
  · rw [List.length_append]
    exact Nat.succ_le_succ hl
end
/-! ### tables of a heap and their plain lists -/
section
variable {κ β : Type} [DecidableEq κ] {F : V → β → Prop} {k : κ → Key} (inj : ∀ a b, k a = k b → a = b)
abbrev KV (k : κ → Key) (F : V → β → Prop) (x : Key × V) (y : κ × β) : Prop := x.1 = k y.1 ∧ F x.2 y.2
include inj
theorem kv_get {j : κ} : ∀ {kvs : List (Key × V)} {l : List (κ × β)}, Paired (KV k F) kvs l → (∀ b, lk l j = some b → ∃ v, valV kvs (k j) = some v ∧ F v b) ∧ (lk l j = none → valV kvs (k j) = none)
  | _, _, .nil => ⟨fun b h => (nomatch h), fun _ => rfl⟩
  | (a, v) :: r, (b, y) :: t, .cons ⟨e, f⟩ p => by
    have ih := kv_get (j := j) p
    simp only at e f
    rw [lk_cons]
    by_cases h : b = j
    · subst h
      rw [if_pos rfl, valV_pos e]
      exact ⟨fun z hz => ⟨v, rfl, (Option.some.inj hz) ▸ f⟩, fun z => (nomatch z)⟩
    · rw [if_neg h, valV_neg (fun z => h (inj _ _ (e.symm.trans z)))]
      exact ih
theorem kv_put {j : κ} {v : V} {b : β} {kvs : List (Key × V)} {l : List (κ × β)} (p : Paired (KV k F) kvs l) (f : F v b) : Paired (KV k F) (putK kvs (k j) v) (pt l j b) := by
  have hg := kv_get inj (j := j) p
  unfold putK pt
  rw [valV_any, lk_any]
  cases h : lk l j with
  | none =>
    rw [hg.2 h, if_neg (by simp), if_neg (by simp)]
    exact Paired.snoc p ⟨rfl, f⟩
  | some y =>
    obtain ⟨u, e, _⟩ := hg.1 y h
    rw [e]
    show Paired _ (List.map _ _) (List.map _ _)
    clear e hg h
    induction p with
    | nil => exact .nil
    | cons r t ih =>
      rename_i x z xs zs
      obtain ⟨e1, e2⟩ := r
      refine .cons ?_ ih
      show KV k F (if x.1 = k j then (x.1, v) else x) (if z.1 = j then (z.1, b) else z)
      by_cases q : z.1 = j
      · rw [if_pos (by rw [e1, q]), if_pos q]
        exact ⟨e1, f⟩
      · rw [if_neg (fun w => q (inj _ _ (e1.symm.trans w))), if_neg q]
        exact ⟨e1, e2⟩
theorem kv_drop {j : κ} {kvs : List (Key × V)} {l : List (κ × β)} (p : Paired (KV k F) kvs l) : Paired (KV k F) (dropK kvs (k j)) (dp l j) := by
  unfold dropK dp
  induction p with
  | nil => exact .nil
  | cons r t ih =>
    rename_i x z xs zs
    obtain ⟨e1, e2⟩ := r
    rw [List.filter_cons, List.filter_cons]
    by_cases q : z.1 = j
    · rw [if_neg (by simp [e1, q]), if_neg (by simp [q])]
      exact ih
    · have q2 : ¬ x.1 = k j := fun w => q (inj _ _ (e1.symm.trans w))
      rw [if_pos (by simp [q2]), if_pos (by simp [q])]
      exact .cons ⟨e1, e2⟩ ih
end
theorem kv_keys {κ β : Type} {F : V → β → Prop} {k : κ → Key} {kvs : List (Key × V)} {l : List (κ × β)} (p : Paired (KV k F) kvs l) : kvs.map (·.1) = (l.map (·.1)).map k := by
  induction p with
  | nil => rfl
  | cons r t ih => rw [List.map_cons, List.map_cons, List.map_cons, ih, r.1]
theorem kv_mono {κ β : Type} {F F' : V → β → Prop} {k : κ → Key} (h : ∀ v b, F v b → F' v b) {kvs : List (Key × V)} {l : List (κ × β)} (p : Paired (KV k F) kvs l) : Paired (KV k F') kvs l := L2.Paired.mapP p fun _ _ z => ⟨z.1, h _ _ z.2⟩
end SP

set_option Elab.async false
set_option linter.all false
set_option maxRecDepth 100000
set_option maxHeartbeats 4000000
/-! What is walked, targets, locks, one step at a time. -/
namespace SP
open PySem PySem.Spec PyProof.Rows L2
def rStrI (v : V) (H : Hp) (R : It → Hp → Prop) : Prop := ∃ x, v = .str x ∧ R (Its x) H
abbrev uStrI (te : TE) : TI := fun σ H R => te σ H fun v H1 => rStrI v H1 R
def rItm (x : V) (H1 : Hp) (R : It → Hp → Prop) : Prop := ∃ d o kvs, x = .ref d ∧ H1 d = some (.frz o (.dK kvs)) ∧ R (Iti d o kvs) H1
abbrev uItems (td : TE) : TI := fun σ H R => td σ H fun x H1 => rItm x H1 R
def rVls (x : V) (H1 : Hp) (R : It → Hp → Prop) : Prop := ∃ d o kvs, x = .ref d ∧ H1 d = some (.frz o (.dK kvs)) ∧ R (Itd d o kvs) H1
abbrev uVals (td : TE) : TI := fun σ H R => td σ H fun x H1 => rVls x H1 R
def rKym (x : V) (H1 : Hp) (R : It → Hp → Prop) : Prop := ∃ d o kvs, x = .ref d ∧ H1 d = some (.frz o (.dK kvs)) ∧ R (Itk d o kvs) H1
abbrev uKeysM (td : TE) : TI := fun σ H R => td σ H fun x H1 => rKym x H1 R
def rKys (x : V) (H1 : Hp) (R : It → Hp → Prop) : Prop := ∃ d o, x = .ref d ∧ ((∃ kvs, H1 d = some (.frz o (.dK kvs)) ∧ R (Itk d o kvs) H1) ∨ ∃ kvs, H1 d = some (.frz o (.dT kvs)) ∧ R (Itkt d o kvs) H1)
abbrev uKeys (td : TE) : TI := fun σ H R => td σ H fun x H1 => rKys x H1 R
section
variable {K : PySem.W.Frag} {σ : L2.St} {H : Hp} {Q : VK} {g g1 g2 : TG} {R : It → Hp → Prop} {q : L2.St → Hp → Prop} {x y v : V} {D : Ends} {t : TS} {te : TE}
theorem x_m1 {a : Str} {r : V → List V → Hp → VK → Prop} (h : te σ H fun y H2 => r (.str a) [y] H2 Q) : rM1t r te σ (.str a) H Q := ⟨⟨a, rfl⟩, h⟩
theorem x_yes {QB : Bool → Hp → Prop} (h : QB true H) : tYes σ H QB := h
theorem x_istr {z : Str} (h : R (Its z) H) : rStrI (.str z) H R := ⟨z, rfl, h⟩
theorem x_iitm {d : Addr} {o : Obj} {kvs : List (Key × V)} (e : H d = some (.frz o (.dK kvs))) (h : R (Iti d o kvs) H) : rItm (.ref d) H R := ⟨d, o, kvs, rfl, e, h⟩
theorem x_ivls {d : Addr} {o : Obj} {kvs : List (Key × V)} (e : H d = some (.frz o (.dK kvs))) (h : R (Itd d o kvs) H) : rVls (.ref d) H R := ⟨d, o, kvs, rfl, e, h⟩
theorem x_ikym {d : Addr} {o : Obj} {kvs : List (Key × V)} (e : H d = some (.frz o (.dK kvs))) (h : R (Itk d o kvs) H) : rKym (.ref d) H R := ⟨d, o, kvs, rfl, e, h⟩
theorem x_ikys {d : Addr} {o : Obj} {kvs : List (Key × V)} (e : H d = some (.frz o (.dK kvs))) (h : R (Itk d o kvs) H) : rKys (.ref d) H R := ⟨d, o, rfl, .inl ⟨kvs, e, h⟩⟩
/-- two names -/
theorem x_gtupN {T : Addr} {i j : Nat} (e : H T = some (.tup [x, y])) (h : q ((σ.set i (some x)).set j (some y)) H) : gTup K 2 (gCons (vName i) (gCons (vName j) gNil)) (.ref T) σ H q :=
  ⟨T, _, rfl, SqT.of e, rfl, x, [y], rfl, y, [], rfl, rfl, h⟩
/-- a dict is locked for a statement -/
theorem x_lock {d : Addr} {kvs : List (Key × V)} (e : H d = some (.dK kvs)) (h : ∀ od H1, H1 = upd H d (.frz od (.dK kvs)) → t ⟨fun σ' H' => H' d = some (.frz od (.dK kvs)) ∧ D.nx σ' (upd H' d (.dK kvs)), fun v H' => H' d = some (.frz od (.dK kvs)) ∧ D.rt v (upd H' d (.dK kvs)), fun σ' H' => H' d = some (.frz od (.dK kvs)) ∧ D.bk σ' (upd H' d (.dK kvs)), fun σ' H' => H' d = some (.frz od (.dK kvs)) ∧ D.ct σ' (upd H' d (.dK kvs))⟩ σ H1) : tLock t D σ H :=
  ⟨d, .dK kvs, e, trivial, fun od => h od _ rfl⟩
theorem x_lockE {d : Addr} {kvs : List (Key × V)} (e : H d = some (.dK kvs)) (h : ∀ od H1, H1 = upd H d (.frz od (.dK kvs)) → te σ H1 fun v H' => H' d = some (.frz od (.dK kvs)) ∧ Q v (upd H' d (.dK kvs))) : tLockE te σ H Q :=
  ⟨d, .dK kvs, e, trivial, fun od => h od _ rfl⟩
/-- one pair displayed -/
theorem x_disp1 {tk tv : TE} (h : ∀ p H1, H p = none → H1 p = some (.dK []) → Same H H1 → tk σ H1 fun x H2 => tv σ H2 fun y H3 => H3 p = some (.dK []) ∧ ∃ k : Key, x = kV k ∧ Q (.ref p) (upd H3 p (.dK [(k, y)]))) (m1 : ∀ H1 (A B : VK), (∀ v H, A v H → B v H) → tk σ H1 A → tk σ H1 B) (m2 : ∀ H1 (A B : VK), (∀ v H, A v H → B v H) → tv σ H1 A → tv σ H1 B) : tDisp [(tk, tv)] σ H Q := fun p hp =>
  m1 _ _ _ (fun x H2 h2 => m2 _ _ _ (fun y H3 h3 => by
    obtain ⟨e, k, ek, hq⟩ := h3
    exact ⟨e, [(k, y)], by rw [ek]; rfl, by show 1 ≤ 15; decide, hq⟩) h2) (h p _ hp upd_same (Same.new hp))
end
end SP

set_option Elab.async false
set_option linter.all false
set_option maxRecDepth 100000
set_option maxHeartbeats 4000000
/-! Names and paths. -/
namespace SP
open PySem PySem.Spec PyProof.Rows L2
local macro_rules | `(tactic| walk_at "hp") => `(tactic| first
  | assumption
  | exact upd_same
  | (refine' sameAt ?sA ?hA; (case sA => assumption); (case hA => walk_at "hp"))
  | (refine' Eq.trans (upd_ne ?nA) ?hA; (case nA => walk_at "ne"); (case hA => walk_at "hp")))
local macro_rules | `(tactic| walk_at "ne") => `(tactic| first
  | assumption
  | (refine' Ne.symm ?hA; assumption)
  | (refine' ne_of_none (H := _) ?hA (by assumption); walk_at "hp")
  | (refine' Ne.symm (ne_of_none (H := _) ?hA (by assumption)); walk_at "hp")
  | (refine' ne_of ?hA ?hB ?hC; (case hA => assumption); (case hB => walk_at "hp"); (case hC => (intro z; cases z))))
local macro_rules | `(tactic| walk_at "sm") => `(tactic| first
  | exact Same.refl _
  | assumption
  | (refine' sameTr ?sA ?sB; (case sA => assumption); (case sB => walk_at "sm")))
local macro_rules | `(tactic| walk_at "dm") => `(tactic| first
  | exact dmRefl
  | assumption
  | (refine' dmUpd ?dA; (case dA => walk_at "dm"))
  | (refine' dmSame ?sA ?dA; (case sA => assumption); (case dA => walk_at "dm")))
local macro_rules | `(tactic| walk_at "fr") => `(tactic| first
  | assumption
  | (refine' dmAt ?dA ?hA; (case hA => assumption); (case dA => walk_at "dm")))
local macro_rules | `(tactic| walk_at "ab") => `(tactic| (exfalso; refine absurd ?hA (noneSome ?hB); (case hB => walk_at "hp"); (case hA => assumption)))
local macro_rules | `(tactic| walk_at "kp") => `(tactic| first
  | exact Keep.refl
  | assumption
  | (refine' Keep.trans ?kA (keepUpd ?kB ?kC ?kD); (case kB => simp); (case kC => walk_at "hp"); (case kD => (intro xs z; cases z)); (case kA => walk_at "kp"))
  | (refine' keepTr ?kB ?kA; (case kB => assumption); (case kA => walk_at "kp"))
  | (refine' keepSm ?kB ?kA; (case kB => assumption); (case kA => walk_at "kp")))
local macro_rules | `(tactic| walk_at "get") => `(tactic| first
  | (refine' x_get_Files_state ?T ?h ?_) | (refine' x_get_Thing_kind ?T ?h ?_) | (refine' x_get_Thing_entries ?T ?h ?_) | (refine' x_get_Thing_held ?T ?h ?_)
  | (refine' x_get_Files_disk ?T ?h ?_) | (refine' x_get_Files_kept ?T ?h ?_) | (refine' x_get_Files_used ?T ?h ?_)
  | (refine' x_get_Disk_blocks ?T ?h ?_) | (refine' x_get_Disk_log ?T ?h ?_)
  | (refine' x_get_Reader_row ?T ?h ?_) | (refine' x_get_Reader_at ?T ?h ?_) | (refine' x_get_Reader_good ?T ?h ?_)
  | (refine' x_get_Files_slot ?T ?h ?_) | (refine' x_get_Files_turn ?T ?h ?_) | (refine' x_get_Files_is_new ?T ?h ?_))
local macro_rules | `(tactic| walk_at "set") => `(tactic| first
  | ((with_reducible refine' x_set_Disk_blocks ?T ?h ?_); (case T => assumption); (case h => walk_at "hp"))
  | ((with_reducible refine' i_set_Disk_blocks ?T ?h ?_); (case T => assumption); (case h => walk_at "hp"))
  | ((with_reducible refine' x_set_Disk_log ?T ?h ?_); (case T => assumption); (case h => walk_at "hp"))
  | ((with_reducible refine' i_set_Disk_log ?T ?h ?_); (case T => assumption); (case h => walk_at "hp"))
  | ((with_reducible refine' x_set_Thing_kind ?T ?h ?_); (case T => assumption); (case h => walk_at "hp"))
  | ((with_reducible refine' i_set_Thing_kind ?T ?h ?_); (case T => assumption); (case h => walk_at "hp"))
  | ((with_reducible refine' x_set_Thing_held ?T ?h ?_); (case T => assumption); (case h => walk_at "hp"))
  | ((with_reducible refine' i_set_Thing_held ?T ?h ?_); (case T => assumption); (case h => walk_at "hp"))
  | ((with_reducible refine' x_set_Thing_entries ?T ?h ?_); (case T => assumption); (case h => walk_at "hp"))
  | ((with_reducible refine' i_set_Thing_entries ?T ?h ?_); (case T => assumption); (case h => walk_at "hp"))
  | ((with_reducible refine' x_set_Reader_row ?T ?h ?_); (case T => assumption); (case h => walk_at "hp"))
  | ((with_reducible refine' i_set_Reader_row ?T ?h ?_); (case T => assumption); (case h => walk_at "hp"))
  | ((with_reducible refine' x_set_Reader_at ?T ?h ?_); (case T => assumption); (case h => walk_at "hp"))
  | ((with_reducible refine' i_set_Reader_at ?T ?h ?_); (case T => assumption); (case h => walk_at "hp"))
  | ((with_reducible refine' x_set_Reader_good ?T ?h ?_); (case T => assumption); (case h => walk_at "hp"))
  | ((with_reducible refine' i_set_Reader_good ?T ?h ?_); (case T => assumption); (case h => walk_at "hp"))
  | ((with_reducible refine' x_set_Files_disk ?T ?h ?_); (case T => assumption); (case h => walk_at "hp"))
  | ((with_reducible refine' i_set_Files_disk ?T ?h ?_); (case T => assumption); (case h => walk_at "hp"))
  | ((with_reducible refine' x_set_Files_state ?T ?h ?_); (case T => assumption); (case h => walk_at "hp"))
  | ((with_reducible refine' i_set_Files_state ?T ?h ?_); (case T => assumption); (case h => walk_at "hp"))
  | ((with_reducible refine' x_set_Files_kept ?T ?h ?_); (case T => assumption); (case h => walk_at "hp"))
  | ((with_reducible refine' i_set_Files_kept ?T ?h ?_); (case T => assumption); (case h => walk_at "hp"))
  | ((with_reducible refine' x_set_Files_slot ?T ?h ?_); (case T => assumption); (case h => walk_at "hp"))
  | ((with_reducible refine' i_set_Files_slot ?T ?h ?_); (case T => assumption); (case h => walk_at "hp"))
  | ((with_reducible refine' x_set_Files_turn ?T ?h ?_); (case T => assumption); (case h => walk_at "hp"))
  | ((with_reducible refine' i_set_Files_turn ?T ?h ?_); (case T => assumption); (case h => walk_at "hp"))
  | ((with_reducible refine' x_set_Files_used ?T ?h ?_); (case T => assumption); (case h => walk_at "hp"))
  | ((with_reducible refine' i_set_Files_used ?T ?h ?_); (case T => assumption); (case h => walk_at "hp"))
  | ((with_reducible refine' x_set_Files_is_new ?T ?h ?_); (case T => assumption); (case h => walk_at "hp"))
  | ((with_reducible refine' i_set_Files_is_new ?T ?h ?_); (case T => assumption); (case h => walk_at "hp")))
local macro_rules | `(tactic| walk_at "go1") => `(tactic| first
  | ((with_reducible refine w_var (v := ?vv) ?e ?_); (case e => rfl))
  | ((with_reducible walk_at "get"); (case T => assumption); (case h => walk_at "hp"))
  | (with_reducible refine x_bl ?_)
  | (with_reducible refine x_isN ?_) | (with_reducible refine x_notN ?_) | (with_reducible refine x_eqI ?_) | (with_reducible refine x_neI ?_) | (with_reducible refine x_eqS ?_) | (with_reducible refine x_neS ?_)
  | (with_reducible refine x_addI ?_) | (with_reducible refine x_subI ?_) | (with_reducible refine x_ltI ?_) | (with_reducible refine x_leI ?_) | (with_reducible refine x_gtI ?_) | (with_reducible refine x_geI ?_)
  | (with_reducible refine x_bv ?_) | (with_reducible refine x_part ?_) | (with_reducible refine x_neg ?_) | (with_reducible refine x_inS ?_)
  | (walk_at "set")
  | ((with_reducible refine' x_bmL ?h ?_); (case h => walk_at "hp")) | ((with_reducible refine' x_bmL0 ?h ?_); (case h => walk_at "hp")))
local macro_rules | `(tactic| walk_at "go") => `(tactic| ((try with_reducible (conv => whnf)); repeat ((walk_at "go1"); (try with_reducible (conv => whnf)))))
def txt_SIGNS : Str := "abcdefghijklmnopqrstuvwxyzABCDEFGHIJKLMNOPQRSTUVWXYZ0123456789._-"
def signIn (c : Nat) : Bool := decide (c ∈ txt_SIGNS.cps.toList)
def isName (t : Str) : Bool := (decide (1 ≤ (t.length : Int)) && decide ((t.length : Int) ≤ 8)) && (!(inV (.str t) [.str ".", .str ".."]) && t.cps.toList.all signIn)
def sp_is_name (K : PySem.W.Frag) : Sp := fun vs H Q E => ∃ t : Str, vs = [.str t] ∧ t.length ≤ 100000 ∧ ∀ H', Same H H' → Q (.bl (isName t)) H'
def t_is_name (K : PySem.W.Frag) (W : WX) : TS := uSeq (uIfS (uOr (uNot (uTest (uChain rLeI rLeI (uC (.int 1)) (uCB cLenS (uCons (tVar 0) uNil)) (uC (.int 8))))) (uTest (uOp (rInQ K) (tVar 0) (uTup (uCons (uC (.str ".")) (uCons (uC (.str "..")) uNil)))))) (uRet (uC (.bl false))) uNext)
    (uRet (uCB (rAll K) (uCons (uLc (uStrI (tVar 0)) (vName 1) tYes (uOp rInS (tVar 1) (uC (.str txt_SIGNS))) [1]) uNil)))
theorem take_snoc {α : Type} {xs : List α} {i : Nat} {x : α} (h : xs[i]? = some x) : xs.take (i + 1) = xs.take i ++ [x] := by
  rw [List.take_add_one, h]
  rfl
theorem pure_is_name {K : PySem.W.Frag} {vs : List V} {H : Hp} {Q : VK} {E : XK} (h : sp_is_name K vs H Q E) : t_is_name K (WE1 E) (fin Q) (start ["text", "sign"] vs) H := by
  obtain ⟨t, rfl, hl, q⟩ := h
  have hz : t.length ≤ sizeLine := Nat.le_trans hl (by rw [sizeLine_eq]; decide)
  show t_is_name K _ (fin Q) [some (.str t), none] H
  have last : ∀ H1, Same H H1 → isName t = t.cps.toList.all signIn → rLc (Its t) (vName 1) tYes (uOp rInS (tVar 1) (uC (.str txt_SIGNS))) [1] [some (.str t), none] H1 fun v H2 => rAll K [v] H2 Q := fun H1 s1 e => by
    refine x_lcW walk_str (fun i acc _ => acc = (t.cps.toList.take i).map fun c => V.bl (signIn c)) (fun _ _ _ _ _ h => h) (fun _ _ => trivial) (by exact hl) rfl (fun i x D H' H'' acc P P0 hi nD hD s2 hP hY k1 k2 => ?_) (fun D H' acc nD hD lA s2 hP => ?_)
    · obtain ⟨rfl, c, hc, rfl⟩ := hY
      refine ⟨rfl, ?_⟩
      refine x_yes ?_
      refine x_ifT rfl ?_
      walk_at "go"
      refine k1 _ _ (Same.refl _) ?_
      subst hP
      have hc2 : t.cps.toList[i]? = some c := by rw [← hc]; simp
      rw [take_snoc hc2, List.map_append]
      rfl
    · refine ⟨D, t.cps.toList.map signIn, rfl, SqL.of ?_, ?_⟩
      · rw [hD, hP, List.map_map]
        have e3 : t.cps.toList.take t.cps.size = t.cps.toList := List.take_of_length_le (by rw [Array.length_toList]; exact Nat.le_refl _)
        rw [e3]
        rfl
      · rw [List.all_map]
        have e2 : t.cps.toList.all (id ∘ signIn) = isName t := by rw [e]; rfl
        rw [e2]
        exact q _ (s1.trans s2)
  unfold t_is_name
  walk_at "go"
  refine x_lenS hz ?_
  walk_at "go"
  have no : isName t = false → ∀ H1, Same H H1 → Q (.bl false) H1 := fun e H1 s1 => by
    rw [← e]
    exact q H1 s1
  by_cases c1 : 1 ≤ (t.length : Int)
  · refine x_ifT (decide_eq_true c1) ?_
    walk_at "go"
    by_cases c2 : (t.length : Int) ≤ 8
    · refine x_ifF (by rw [decide_eq_true c2]; rfl) ?_
      walk_at "go"
      refine x_tup fun p H1 np hp s1 => ?_
      refine ⟨p, _, rfl, .inr (SqT.of hp), rfl, rfl, ?_⟩
      walk_at "go"
      refine x_if (fun hi => ?_) (fun hi => ?_)
      · walk_at "go"
        exact no (by unfold isName; rw [show inV (.str t) [.str ".", .str ".."] = true from hi, Bool.not_true, Bool.false_and, Bool.and_false]) H1 s1
      · walk_at "go"
        refine x_istr ?_
        exact last H1 s1 (by unfold isName; rw [show inV (.str t) [.str ".", .str ".."] = false from hi, decide_eq_true c1, decide_eq_true c2]; rfl)
    · refine x_ifT (by rw [decide_eq_false c2]; rfl) ?_
      walk_at "go"
      exact no (by unfold isName; rw [decide_eq_false c2, Bool.and_false, Bool.false_and]) H (Same.refl H)
  · refine x_ifF (decide_eq_false c1) ?_
    walk_at "go"
    refine x_ifT rfl ?_
    walk_at "go"
    exact no (by unfold isName; rw [decide_eq_false c1, Bool.false_and, Bool.false_and]) H (Same.refl H)
/-! ### need_name, parts -/
def sp_need_name (K : PySem.W.Frag) : Sp := fun vs H Q E => ∃ t : Str, vs = [.str t] ∧ t.length ≤ 100000 ∧ (isName t = true → ∀ H', Same H H' → Q .non H') ∧ (isName t = false → ∀ H', Same H H' → Exn K E "BadName" H')
def t_need_name (K : PySem.W.Frag) (W : WX) : TS := uIfS (uNot (uTest (uCallW (sp_is_name K) W (uCons (tVar 0) uNil)))) (uRaiseW W (He.ga K "BadName")) uNext
theorem pure_need_name {K : PySem.W.Frag} {vs : List V} {H : Hp} {Q : VK} {E : XK} (h : sp_need_name K vs H Q E) : t_need_name K (WE1 E) (fin Q) (start ["text"] vs) H := by
  obtain ⟨t, rfl, hl, q, e⟩ := h
  show t_need_name K _ (fin Q) [some (.str t)] H
  unfold t_need_name
  walk_at "go"
  refine ⟨t, rfl, hl, fun H1 s1 => ?_⟩
  walk_at "go"
  refine x_if (fun hi => ?_) (fun hi => ?_)
  · walk_at "go"
    exact e (by simpa using hi) _ s1
  · walk_at "go"
    exact q (by simpa using hi) _ s1
def restOf (p : Str) : Str := cutS p (some 1) none
/-- the names of a path; none: it is none -/
def partsOf (p : Str) : Option (List Str) :=
  if p = "/" then some [] else if (60 < (p.length : Int)) ∨ cutS p none (some 1) ≠ "/" then none
  else if (Txt.split (restOf p) "/").all isName = true then some (Txt.split (restOf p) "/") else none
def sp_parts (K : PySem.W.Frag) : Sp := fun vs H Q E => ∃ p : Str, vs = [.str p] ∧ p.length ≤ 100000 ∧ (∀ ns, partsOf p = some ns → ∀ a H', H a = none → H' a = some (.lst (ns.map V.str)) → Same H H' → Q (.ref a) H') ∧ (partsOf p = none → ∀ H', Same H H' → Exn K E "BadName" H')
def t_parts (K : PySem.W.Frag) (W : WX) : TS := uSeq (uIfS (uTest (uOp rEq (tVar 0) (uC (.str "/")))) (uRet (uLst uNil)) uNext)
    (uSeq (uIfS (uOr (uTest (uOp rGtI (uCB cLenS (uCons (tVar 0) uNil)) (uC (.int 60)))) (uTest (uOp rNe (uSl rSlS (tVar 0) uNoPart (uPart (uC (.int 1)))) (uC (.str "/"))))) (uRaiseW W (He.ga K "BadName")) uNext)
    (uSeq (uAsg (uM1 rSplitS (uSl rSlS (tVar 0) (uPart (uC (.int 1))) uNoPart) (uC (.str "/"))) (vName 1))
    (uSeq (uFor (jList K (tVar 1)) (vName 2) (uDrop (uCallW (sp_need_name K) W (uCons (tVar 2) uNil))))
    (uRet (tVar 1)))))
theorem le_sum {y : Str} : ∀ {l : List Str}, y ∈ l → y.length ≤ (l.map (·.length)).sum
  | a :: r, h => by
    rw [List.map_cons, List.sum_cons]
    rcases List.mem_cons.mp h with e | e
    · rw [e]
      exact Nat.le_add_right _ _
    · exact Nat.le_trans (le_sum e) (Nat.le_add_left _ _)
theorem split_size {x s : Str} : ∀ y ∈ Txt.split x s, y.length ≤ x.length := fun y hy => by
  unfold Txt.split at hy
  split at hy
  · rw [List.mem_singleton.mp hy]
    exact Nat.le_refl _
  split at hy
  · rw [List.mem_singleton.mp hy]
    exact Nat.le_refl _
  · have h1 := le_sum hy
    have h2 := StrLaws.glued_between_self x s (x.length + 1)
    have h3 := congrArg Str.length h2
    rw [size_glued] at h3
    omega
theorem split_len {x : Str} (h : x.length ≤ 1000) : ∀ y ∈ Txt.split x "/", y.length ≤ 100000 := fun y hy => Nat.le_trans (split_size y hy) (by omega)
theorem cutS_len (z : Str) (lo hi : Option Int) : (cutS z lo hi).length ≤ z.length := by
  show ((z.cps.toList.drop _).take _).toArray.size ≤ z.cps.size
  rw [List.size_toArray, List.length_take, List.length_drop, Array.length_toList]
  omega
theorem pure_parts {K : PySem.W.Frag} {vs : List V} {H : Hp} {Q : VK} {E : XK} (h : sp_parts K vs H Q E) : t_parts K (WE1 E) (fin Q) (start ["path", "names", "name"] vs) H := by
  obtain ⟨p, rfl, hl, q, e⟩ := h
  have hz : p.length ≤ sizeLine := Nat.le_trans hl (by rw [sizeLine_eq]; decide)
  show t_parts K _ (fin Q) [some (.str p), none, none] H
  unfold t_parts
  walk_at "go"
  by_cases c0 : p = "/"
  · refine x_ifT (decide_eq_true c0) ?_
    walk_at "go"
    refine x_lst fun a H1 na ha s1 => ?_
    exact q [] (if_pos c0) a H1 na ha s1
  refine x_ifF (decide_eq_false c0) ?_
  walk_at "go"
  refine x_lenS hz ?_
  walk_at "go"
  by_cases c1 : 60 < (p.length : Int)
  · refine x_ifT (decide_eq_true c1) ?_
    walk_at "go"
    refine x_ifT rfl ?_
    walk_at "go"
    exact e (by unfold partsOf; rw [if_neg c0, if_pos (.inl c1)]) H (Same.refl H)
  refine x_ifF (decide_eq_false c1) ?_
  walk_at "go"
  refine x_slS hz ?_
  walk_at "go"
  by_cases c2 : cutS p none (some 1) = "/"
  · refine x_ifF (by rw [decide_eq_true c2]; rfl) ?_
    walk_at "go"
    refine x_slS hz ?_
    walk_at "go"
    refine x_m1 ?_
    walk_at "go"
    have hc60 : p.length ≤ 60 := by omega
    have hr : (restOf p).length ≤ 1000 := Nat.le_trans (cutS_len p _ _) (by omega)
    refine x_split rfl (by rw [sizeLine_eq]; show (restOf p).length + 2 ≤ _; omega) fun a H1 na ha s1 => ?_
    have ha : H1 a = some (.lst ((Txt.split (restOf p) "/").map V.str)) := ha
    have sl := split_len hr
    have ex : partsOf p = if (Txt.split (restOf p) "/").all isName = true then some (Txt.split (restOf p) "/") else none := by
      unfold partsOf
      rw [if_neg c0, if_neg (by
        rintro (z | z)
        · exact c1 z
        · exact z c2)]
    generalize Txt.split (restOf p) "/" = ns at ha sl ex
    walk_at "go"
    refine x_ilist (SqL.of ha) ?_
    refine x_forL (xs := ns.map V.str) (fun i σ H' => (∃ o, σ = [some (.str p), some (.ref a), o]) ∧ Same H1 H' ∧ (ns.take i).all isName = true) ⟨⟨_, rfl⟩, Same.refl _, rfl⟩ (fun i σ H' _ h => SqL.of (h.2.1 _ _ ha)) (fun i x σ H' hx h => ?_) (fun σ H' h => ?_)
    · obtain ⟨⟨o, rfl⟩, s, hn⟩ := h
      rw [List.getElem?_map] at hx
      obtain ⟨t, ht, rfl⟩ := Option.map_eq_some_iff.mp hx
      walk_at "go"
      refine ⟨t, rfl, sl t (List.mem_of_getElem? ht), fun et H2 s2 => ?_, fun et H2 s2 => ?_⟩
      · walk_at "go"
        refine ⟨⟨_, rfl⟩, s.trans s2, ?_⟩
        rw [take_snoc ht, List.all_append, hn]
        simp [et]
      · refine e ?_ _ ((s1.trans s).trans s2)
        rw [ex, if_neg]
        intro z
        have := List.all_eq_true.mp z t (List.mem_of_getElem? ht)
        rw [et] at this
        cases this
    · obtain ⟨⟨o, rfl⟩, s, hn⟩ := h
      walk_at "go"
      rw [List.length_map, List.take_length] at hn
      exact q ns (by rw [ex, if_pos hn]) a H' na (s _ _ ha) (s1.trans s)
  · refine x_ifT (by rw [decide_eq_false c2]; rfl) ?_
    walk_at "go"
    exact e (by unfold partsOf; rw [if_neg c0, if_pos (.inr c2)]) H (Same.refl H)
end SP

set_option Elab.async false
set_option linter.all false
set_option maxRecDepth 100000
set_option maxHeartbeats 4000000
/-! Things and states. -/
namespace SP
open PySem PySem.Spec PyProof.Rows L2
local macro_rules | `(tactic| walk_at "hp") => `(tactic| first
  | assumption
  | exact upd_same
  | (refine' sameAt ?sA ?hA; (case sA => assumption); (case hA => walk_at "hp"))
  | (refine' Eq.trans (upd_ne ?nA) ?hA; (case nA => walk_at "ne"); (case hA => walk_at "hp")))
local macro_rules | `(tactic| walk_at "ne") => `(tactic| first
  | assumption
  | (refine' Ne.symm ?hA; assumption)
  | (refine' ne_of_none (H := _) ?hA (by assumption); walk_at "hp")
  | (refine' Ne.symm (ne_of_none (H := _) ?hA (by assumption)); walk_at "hp")
  | (refine' ne_of ?hA ?hB ?hC; (case hA => assumption); (case hB => walk_at "hp"); (case hC => (intro z; cases z))))
local macro_rules | `(tactic| walk_at "sm") => `(tactic| first
  | exact Same.refl _
  | assumption
  | (refine' sameTr ?sA ?sB; (case sA => assumption); (case sB => walk_at "sm")))
local macro_rules | `(tactic| walk_at "dm") => `(tactic| first
  | exact dmRefl
  | assumption
  | (refine' dmUpd ?dA; (case dA => walk_at "dm"))
  | (refine' dmSame ?sA ?dA; (case sA => assumption); (case dA => walk_at "dm")))
local macro_rules | `(tactic| walk_at "fr") => `(tactic| first
  | assumption
  | (refine' dmAt ?dA ?hA; (case hA => assumption); (case dA => walk_at "dm")))
local macro_rules | `(tactic| walk_at "ab") => `(tactic| (exfalso; refine absurd ?hA (noneSome ?hB); (case hB => walk_at "hp"); (case hA => assumption)))
local macro_rules | `(tactic| walk_at "kp") => `(tactic| first
  | exact Keep.refl
  | assumption
  | (refine' Keep.trans ?kA (keepUpd ?kB ?kC ?kD); (case kB => simp); (case kC => walk_at "hp"); (case kD => (intro xs z; cases z)); (case kA => walk_at "kp"))
  | (refine' keepTr ?kB ?kA; (case kB => assumption); (case kA => walk_at "kp"))
  | (refine' keepSm ?kB ?kA; (case kB => assumption); (case kA => walk_at "kp")))
local macro_rules | `(tactic| walk_at "get") => `(tactic| first
  | (refine' x_get_Files_state ?T ?h ?_) | (refine' x_get_Thing_kind ?T ?h ?_) | (refine' x_get_Thing_entries ?T ?h ?_) | (refine' x_get_Thing_held ?T ?h ?_)
  | (refine' x_get_Files_disk ?T ?h ?_) | (refine' x_get_Files_kept ?T ?h ?_) | (refine' x_get_Files_used ?T ?h ?_)
  | (refine' x_get_Disk_blocks ?T ?h ?_) | (refine' x_get_Disk_log ?T ?h ?_)
  | (refine' x_get_Reader_row ?T ?h ?_) | (refine' x_get_Reader_at ?T ?h ?_) | (refine' x_get_Reader_good ?T ?h ?_)
  | (refine' x_get_Files_slot ?T ?h ?_) | (refine' x_get_Files_turn ?T ?h ?_) | (refine' x_get_Files_is_new ?T ?h ?_))
local macro_rules | `(tactic| walk_at "set") => `(tactic| first
  | ((with_reducible refine' x_set_Disk_blocks ?T ?h ?_); (case T => assumption); (case h => walk_at "hp"))
  | ((with_reducible refine' i_set_Disk_blocks ?T ?h ?_); (case T => assumption); (case h => walk_at "hp"))
  | ((with_reducible refine' x_set_Disk_log ?T ?h ?_); (case T => assumption); (case h => walk_at "hp"))
  | ((with_reducible refine' i_set_Disk_log ?T ?h ?_); (case T => assumption); (case h => walk_at "hp"))
  | ((with_reducible refine' x_set_Thing_kind ?T ?h ?_); (case T => assumption); (case h => walk_at "hp"))
  | ((with_reducible refine' i_set_Thing_kind ?T ?h ?_); (case T => assumption); (case h => walk_at "hp"))
  | ((with_reducible refine' x_set_Thing_held ?T ?h ?_); (case T => assumption); (case h => walk_at "hp"))
  | ((with_reducible refine' i_set_Thing_held ?T ?h ?_); (case T => assumption); (case h => walk_at "hp"))
  | ((with_reducible refine' x_set_Thing_entries ?T ?h ?_); (case T => assumption); (case h => walk_at "hp"))
  | ((with_reducible refine' i_set_Thing_entries ?T ?h ?_); (case T => assumption); (case h => walk_at "hp"))
  | ((with_reducible refine' x_set_Reader_row ?T ?h ?_); (case T => assumption); (case h => walk_at "hp"))
  | ((with_reducible refine' i_set_Reader_row ?T ?h ?_); (case T => assumption); (case h => walk_at "hp"))
  | ((with_reducible refine' x_set_Reader_at ?T ?h ?_); (case T => assumption); (case h => walk_at "hp"))
  | ((with_reducible refine' i_set_Reader_at ?T ?h ?_); (case T => assumption); (case h => walk_at "hp"))
  | ((with_reducible refine' x_set_Reader_good ?T ?h ?_); (case T => assumption); (case h => walk_at "hp"))
  | ((with_reducible refine' i_set_Reader_good ?T ?h ?_); (case T => assumption); (case h => walk_at "hp"))
  | ((with_reducible refine' x_set_Files_disk ?T ?h ?_); (case T => assumption); (case h => walk_at "hp"))
  | ((with_reducible refine' i_set_Files_disk ?T ?h ?_); (case T => assumption); (case h => walk_at "hp"))
  | ((with_reducible refine' x_set_Files_state ?T ?h ?_); (case T => assumption); (case h => walk_at "hp"))
  | ((with_reducible refine' i_set_Files_state ?T ?h ?_); (case T => assumption); (case h => walk_at "hp"))
  | ((with_reducible refine' x_set_Files_kept ?T ?h ?_); (case T => assumption); (case h => walk_at "hp"))
  | ((with_reducible refine' i_set_Files_kept ?T ?h ?_); (case T => assumption); (case h => walk_at "hp"))
  | ((with_reducible refine' x_set_Files_slot ?T ?h ?_); (case T => assumption); (case h => walk_at "hp"))
  | ((with_reducible refine' i_set_Files_slot ?T ?h ?_); (case T => assumption); (case h => walk_at "hp"))
  | ((with_reducible refine' x_set_Files_turn ?T ?h ?_); (case T => assumption); (case h => walk_at "hp"))
  | ((with_reducible refine' i_set_Files_turn ?T ?h ?_); (case T => assumption); (case h => walk_at "hp"))
  | ((with_reducible refine' x_set_Files_used ?T ?h ?_); (case T => assumption); (case h => walk_at "hp"))
  | ((with_reducible refine' i_set_Files_used ?T ?h ?_); (case T => assumption); (case h => walk_at "hp"))
  | ((with_reducible refine' x_set_Files_is_new ?T ?h ?_); (case T => assumption); (case h => walk_at "hp"))
  | ((with_reducible refine' i_set_Files_is_new ?T ?h ?_); (case T => assumption); (case h => walk_at "hp")))
local macro_rules | `(tactic| walk_at "go1") => `(tactic| first
  | ((with_reducible refine w_var (v := ?vv) ?e ?_); (case e => rfl))
  | ((with_reducible walk_at "get"); (case T => assumption); (case h => walk_at "hp"))
  | (with_reducible refine x_bl ?_)
  | (with_reducible refine x_isN ?_) | (with_reducible refine x_notN ?_) | (with_reducible refine x_eqI ?_) | (with_reducible refine x_neI ?_) | (with_reducible refine x_eqS ?_) | (with_reducible refine x_neS ?_)
  | (with_reducible refine x_addI ?_) | (with_reducible refine x_subI ?_) | (with_reducible refine x_ltI ?_) | (with_reducible refine x_leI ?_) | (with_reducible refine x_gtI ?_) | (with_reducible refine x_geI ?_)
  | (with_reducible refine x_bv ?_) | (with_reducible refine x_part ?_) | (with_reducible refine x_neg ?_) | (with_reducible refine x_inS ?_)
  | (walk_at "set")
  | ((with_reducible refine' x_bmL ?h ?_); (case h => walk_at "hp")) | ((with_reducible refine' x_bmL0 ?h ?_); (case h => walk_at "hp")))
local macro_rules | `(tactic| walk_at "go") => `(tactic| ((try with_reducible (conv => whnf)); repeat ((walk_at "go1"); (try with_reducible (conv => whnf)))))
structure Th where
  dir : Bool
  held : List Int
  ents : List (Str × Int)
def kindS (b : Bool) : Str := if b then "dir" else "file"
def ek (es : List (Str × Int)) : List (Key × V) := es.map fun e => (Sum.inr e.1, V.int e.2)
/-- a thing's value, its entries' dict at el -/
def ThE (K : PySem.W.Frag) (H : Hp) (v : V) (el : Addr) (t : Th) : Prop := ∃ p dx hl, v = .ref p ∧ H p = some (oThing K dx (.str (kindS t.dir)) (.ref hl) (.ref el)) ∧ H hl = some (.lst (t.held.map V.int)) ∧ H el = some (.dK (ek t.ents))
def ThAt (K : PySem.W.Frag) (H : Hp) (v : V) (t : Th) : Prop := ∃ el, ThE K H v el t
abbrev St := List (Int × Th)
def StateAt (K : PySem.W.Frag) (H : Hp) (s : Addr) (S : St) : Prop := ∃ kvs, H s = some (.dK kvs) ∧ Paired (KV Sum.inl (ThAt K H)) kvs S
abbrev Xs := List (Int × (Th × Addr))
def er (X : Xs) : St := X.map fun x => (x.1, x.2.1)
def els (X : Xs) : List Addr := X.map fun x => x.2.2
/-- a state that nobody else holds -/
structure OwnAt (K : PySem.W.Frag) (H : Hp) (s : Addr) (X : Xs) : Prop where
  at_ : ∃ kvs, H s = some (.dK kvs) ∧ Paired (KV Sum.inl fun v y => ThE K H v y.2 y.1) kvs X
  ns : ∀ x ∈ X, x.2.2 ≠ s
  ne : ∀ x ∈ X, ∀ y ∈ X, x.2.2 = y.2.2 → x.1 = y.1
  kd : (X.map (·.1)).Nodup
theorem ThE.same {K : PySem.W.Frag} {H H' : Hp} {v : V} {el : Addr} {t : Th} (s : Same H H') (h : ThE K H v el t) : ThE K H' v el t := by
  obtain ⟨p, dx, hl, e, h1, h2, h3⟩ := h
  exact ⟨p, dx, hl, e, s _ _ h1, s _ _ h2, s _ _ h3⟩
theorem ThAt.same {K : PySem.W.Frag} {H H' : Hp} {v : V} {t : Th} (s : Same H H') (h : ThAt K H v t) : ThAt K H' v t := by
  obtain ⟨el, h⟩ := h
  exact ⟨el, h.same s⟩
theorem StateAt.same {K : PySem.W.Frag} {H H' : Hp} {a : Addr} {S : St} (s : Same H H') (h : StateAt K H a S) : StateAt K H' a S := by
  obtain ⟨kvs, e, p⟩ := h
  exact ⟨kvs, s _ _ e, kv_mono (fun _ _ z => z.same s) p⟩
theorem OwnAt.same {K : PySem.W.Frag} {H H' : Hp} {a : Addr} {X : Xs} (s : Same H H') (h : OwnAt K H a X) : OwnAt K H' a X := by
  obtain ⟨⟨kvs, e, p⟩, n, m, d⟩ := h
  exact ⟨⟨kvs, s _ _ e, kv_mono (fun _ _ z => z.same s) p⟩, n, m, d⟩
theorem OwnAt.state {K : PySem.W.Frag} {H : Hp} {a : Addr} {X : Xs} (h : OwnAt K H a X) : StateAt K H a (er X) := by
  obtain ⟨⟨kvs, e, p⟩, n, m, d⟩ := h
  refine ⟨kvs, e, ?_⟩
  clear e n m d
  unfold er
  induction p with
  | nil => exact .nil
  | cons r t ih => exact .cons ⟨r.1, _, r.2⟩ ih
theorem nw_same (H H' : Hp) : Same (nw H H') H' := fun a o h => (nw_none h).2
theorem nw_avS {ms : List Addr} {H H' : Hp} (h : ∀ a ∈ ms, (H a).isSome = true) : Same (nw H H') (av ms H') := fun a o e => by
  obtain ⟨h1, h2⟩ := nw_none e
  exact av_at h2 fun z => by
    have q := h a z
    rw [h1] at q
    cases q
theorem nw_sameR {H0 H H' H'' : Hp} (b : Same H0 H) (e : Same H' H'') : Same (nw H H') (nw H0 H'') := fun a o h => by
  obtain ⟨h1, h2⟩ := nw_none h
  exact nw_new (b.free h1) (e a o h2)
theorem nw_upd {H H' : Hp} {p : Addr} {o : HO} (h : H p = none) : nw H (upd H' p o) = upd (nw H H') p o := by
  funext a
  by_cases e : a = p
  · subst e
    rw [upd_same, nw_new h upd_same]
  · rw [upd_ne e]
    unfold nw
    rw [upd_ne e]
theorem inl_inj {a b : Int} (h : (Sum.inl a : Key) = Sum.inl b) : a = b := by cases h; rfl
theorem inr_inj {a b : Str} (h : (Sum.inr a : Key) = Sum.inr b) : a = b := by cases h; rfl
theorem ek_paired (es : List (Str × Int)) : Paired (KV Sum.inr fun v i => v = V.int i) (ek es) es := by
  induction es with
  | nil => exact .nil
  | cons e r ih => exact .cons ⟨rfl, rfl⟩ ih
theorem ek_of {kvs : List (Key × V)} {es : List (Str × Int)} (h : Paired (KV Sum.inr fun v i => v = V.int i) kvs es) : kvs = ek es := by
  induction h with
  | nil => rfl
  | cons r t ih =>
    rename_i x y xs ys
    obtain ⟨a, b⟩ := x
    obtain ⟨e1, e2⟩ := r
    simp only at e1 e2
    rw [e1, e2, ih]
    rfl
theorem ek_get (es : List (Str × Int)) (j : Str) : valV (ek es) (Sum.inr j) = (lk es j).map V.int := by
  have h := kv_get (k := Sum.inr) (F := fun v i => v = V.int i) (fun _ _ => inr_inj) (j := j) (ek_paired es)
  cases e : lk es j with
  | none => rw [h.2 e]; rfl
  | some i =>
    obtain ⟨v, e1, e2⟩ := h.1 i e
    rw [e1, e2]
    rfl
theorem ek_put (es : List (Str × Int)) (j : Str) (i : Int) : putK (ek es) (Sum.inr j) (.int i) = ek (pt es j i) := ek_of (kv_put (k := Sum.inr) (F := fun v i => v = V.int i) (fun _ _ => inr_inj) (ek_paired es) rfl)
theorem ek_drop (es : List (Str × Int)) (j : Str) : dropK (ek es) (Sum.inr j) = ek (dp es j) := ek_of (kv_drop (k := Sum.inr) (F := fun v i => v = V.int i) (fun _ _ => inr_inj) (ek_paired es))
theorem ek_len (es : List (Str × Int)) : (ek es).length = es.length := List.length_map ..
theorem ek_keys (es : List (Str × Int)) : (ek es).map (·.1) = (es.map (·.1)).map Sum.inr := by
  unfold ek
  rw [List.map_map, List.map_map]
  rfl
theorem sq_same {K : PySem.W.Frag} {H H' : Hp} {a : Addr} {xs : List V} (s : Same H H') (h : SqL K H a xs) : SqL K H' a xs := (Same.le s).sql h
/-! ### Thing.__init__ -/
def sp_Thing___init__ (K : PySem.W.Frag) : Sp := fun vs H Q E => ∃ (p dx l e : Addr) (k : Str) (xs : List V) (kvs : List (Key × V)), vs = [.ref p, .str k, .ref l, .ref e] ∧ H p = some (.ins (He.ga K "Thing") dx []) ∧ SqL K H l xs ∧ Rd H e (.dK kvs) ∧
  ∀ hl el H', H hl = none → H el = none → Keep [p] H H' → H' p = some (oThing K dx (.str k) (.ref hl) (.ref el)) → H' hl = some (.lst xs) → H' el = some (.dK kvs) → Q .non H'
def t_Thing___init__ (K : PySem.W.Frag) (W : WX) : TS := uSeq (uFldS K (tVar 0) (tVar 1) "kind")
    (uSeq (uFldS K (tVar 0) (uCB (cList K) (uCons (tVar 2) uNil)) "held")
    (uFldS K (tVar 0) (uCB cDictD (uCons (tVar 3) uNil)) "entries"))
theorem pure_Thing___init__ {K : PySem.W.Frag} (T : PxThing K) {vs : List V} {H : Hp} {Q : VK} {E : XK} (h : sp_Thing___init__ K vs H Q E) : t_Thing___init__ K (WE1 E) (fin Q) (start ["self", "kind", "held", "entries"] vs) H := by
  obtain ⟨p, dx, l, e, k, xs, kvs, rfl, hp, hl, he, q⟩ := h
  have npl : ∀ {ys}, H l = some (.lst ys) → l ≠ p := fun z => ne_of z hp (by intro z; cases z)
  have nep : ∀ {ys}, H e = some (.dK ys) → e ≠ p := fun z => ne_of z hp (by intro z; cases z)
  show t_Thing___init__ K _ (fin Q) [some (.ref p), some (.str k), some (.ref l), some (.ref e)] H
  unfold t_Thing___init__
  walk_at "go"
  have hl1 : SqL K (upd H p (.ins (He.ga K "Thing") dx [("kind", .str k)])) l xs := by
    rcases hl with (hl | ⟨o, hl⟩) | hl
    · exact .inl (.inl (by rw [upd_ne (npl hl)]; exact hl))
    · exact .inl (.inr ⟨o, by rw [upd_ne (ne_of hl hp (by intro z; cases z))]; exact hl⟩)
    · exact .inr hl
  refine x_listL hl1 fun a H2 na ha s2 => ?_
  walk_at "go"
  have he2 : Rd H2 e (.dK kvs) := by
    rcases he with he | ⟨o, he⟩
    · exact .inl (s2 _ _ (by rw [upd_ne (nep he)]; exact he))
    · exact .inr ⟨o, s2 _ _ (by rw [upd_ne (ne_of he hp (by intro z; cases z))]; exact he)⟩
  have hp2 : H2 p = some (.ins (He.ga K "Thing") dx [("kind", .str k)]) := s2 _ _ upd_same
  have he3 : Rd (upd H2 p (.ins (He.ga K "Thing") dx [("kind", .str k), ("held", .ref a)])) e (.dK kvs) := by
    rcases he2 with he | ⟨o, he⟩
    · exact .inl (by rw [upd_ne (ne_of he hp2 (by intro z; cases z))]; exact he)
    · exact .inr ⟨o, by rw [upd_ne (ne_of he hp2 (by intro z; cases z))]; exact he⟩
  refine x_dictD he3 fun b H4 nb hb s4 => ?_
  walk_at "go"
  have ha3 : (upd H2 p (.ins (He.ga K "Thing") dx [("kind", .str k), ("held", .ref a)])) a = some (.lst xs) := by
    rw [upd_ne (ne_of ha hp2 (by intro z; cases z))]
    exact ha
  have hp4 : H4 p = some (.ins (He.ga K "Thing") dx [("kind", .str k), ("held", .ref a)]) := s4 _ _ upd_same
  have na0 : H a = none := freeUpd na
  have nb0 : H b = none := freeUpd (s2.free (freeUpd nb))
  refine q a b _ na0 nb0 ?_ upd_same ?_ ?_
  · refine ((((keepUpd (by simp) hp (fun xs z => by cases z)).trans (Keep.of s2)).trans (keepUpd (by simp) hp2 (fun xs z => by cases z))).trans (Keep.of s4)).trans (keepUpd (by simp) hp4 (fun xs z => by cases z))
  · rw [upd_ne (ne_of (s4 _ _ ha3) hp4 (by intro z; cases z))]
    exact s4 _ _ ha3
  · rw [upd_ne (ne_of hb hp4 (by intro z; cases z))]
    exact hb
end SP

set_option Elab.async false
set_option linter.all false
set_option maxRecDepth 100000
set_option maxHeartbeats 4000000
/-! States: made, copied, looked at. -/
namespace SP
open PySem PySem.Spec PyProof.Rows L2
local macro_rules | `(tactic| walk_at "hp") => `(tactic| first
  | assumption
  | exact upd_same
  | (refine' sameAt ?sA ?hA; (case sA => assumption); (case hA => walk_at "hp"))
  | (refine' Eq.trans (upd_ne ?nA) ?hA; (case nA => walk_at "ne"); (case hA => walk_at "hp")))
local macro_rules | `(tactic| walk_at "ne") => `(tactic| first
  | assumption
  | (refine' Ne.symm ?hA; assumption)
  | (refine' ne_of_none (H := _) ?hA (by assumption); walk_at "hp")
  | (refine' Ne.symm (ne_of_none (H := _) ?hA (by assumption)); walk_at "hp")
  | (refine' ne_of ?hA ?hB ?hC; (case hA => assumption); (case hB => walk_at "hp"); (case hC => (intro z; cases z))))
local macro_rules | `(tactic| walk_at "sm") => `(tactic| first
  | exact Same.refl _
  | assumption
  | (refine' sameTr ?sA ?sB; (case sA => assumption); (case sB => walk_at "sm")))
local macro_rules | `(tactic| walk_at "dm") => `(tactic| first
  | exact dmRefl
  | assumption
  | (refine' dmUpd ?dA; (case dA => walk_at "dm"))
  | (refine' dmSame ?sA ?dA; (case sA => assumption); (case dA => walk_at "dm")))
local macro_rules | `(tactic| walk_at "fr") => `(tactic| first
  | assumption
  | (refine' dmAt ?dA ?hA; (case hA => assumption); (case dA => walk_at "dm")))
local macro_rules | `(tactic| walk_at "ab") => `(tactic| (exfalso; refine absurd ?hA (noneSome ?hB); (case hB => walk_at "hp"); (case hA => assumption)))
local macro_rules | `(tactic| walk_at "kp") => `(tactic| first
  | exact Keep.refl
  | assumption
  | (refine' Keep.trans ?kA (keepUpd ?kB ?kC ?kD); (case kB => simp); (case kC => walk_at "hp"); (case kD => (intro xs z; cases z)); (case kA => walk_at "kp"))
  | (refine' keepTr ?kB ?kA; (case kB => assumption); (case kA => walk_at "kp"))
  | (refine' keepSm ?kB ?kA; (case kB => assumption); (case kA => walk_at "kp")))
local macro_rules | `(tactic| walk_at "get") => `(tactic| first
  | (refine' x_get_Files_state ?T ?h ?_) | (refine' x_get_Thing_kind ?T ?h ?_) | (refine' x_get_Thing_entries ?T ?h ?_) | (refine' x_get_Thing_held ?T ?h ?_)
  | (refine' x_get_Files_disk ?T ?h ?_) | (refine' x_get_Files_kept ?T ?h ?_) | (refine' x_get_Files_used ?T ?h ?_)
  | (refine' x_get_Disk_blocks ?T ?h ?_) | (refine' x_get_Disk_log ?T ?h ?_)
  | (refine' x_get_Reader_row ?T ?h ?_) | (refine' x_get_Reader_at ?T ?h ?_) | (refine' x_get_Reader_good ?T ?h ?_)
  | (refine' x_get_Files_slot ?T ?h ?_) | (refine' x_get_Files_turn ?T ?h ?_) | (refine' x_get_Files_is_new ?T ?h ?_))
local macro_rules | `(tactic| walk_at "set") => `(tactic| first
  | ((with_reducible refine' x_set_Disk_blocks ?T ?h ?_); (case T => assumption); (case h => walk_at "hp"))
  | ((with_reducible refine' i_set_Disk_blocks ?T ?h ?_); (case T => assumption); (case h => walk_at "hp"))
  | ((with_reducible refine' x_set_Disk_log ?T ?h ?_); (case T => assumption); (case h => walk_at "hp"))
  | ((with_reducible refine' i_set_Disk_log ?T ?h ?_); (case T => assumption); (case h => walk_at "hp"))
  | ((with_reducible refine' x_set_Thing_kind ?T ?h ?_); (case T => assumption); (case h => walk_at "hp"))
  | ((with_reducible refine' i_set_Thing_kind ?T ?h ?_); (case T => assumption); (case h => walk_at "hp"))
  | ((with_reducible refine' x_set_Thing_held ?T ?h ?_); (case T => assumption); (case h => walk_at "hp"))
  | ((with_reducible refine' i_set_Thing_held ?T ?h ?_); (case T => assumption); (case h => walk_at "hp"))
  | ((with_reducible refine' x_set_Thing_entries ?T ?h ?_); (case T => assumption); (case h => walk_at "hp"))
  | ((with_reducible refine' i_set_Thing_entries ?T ?h ?_); (case T => assumption); (case h => walk_at "hp"))
  | ((with_reducible refine' x_set_Reader_row ?T ?h ?_); (case T => assumption); (case h => walk_at "hp"))
  | ((with_reducible refine' i_set_Reader_row ?T ?h ?_); (case T => assumption); (case h => walk_at "hp"))
  | ((with_reducible refine' x_set_Reader_at ?T ?h ?_); (case T => assumption); (case h => walk_at "hp"))
  | ((with_reducible refine' i_set_Reader_at ?T ?h ?_); (case T => assumption); (case h => walk_at "hp"))
  | ((with_reducible refine' x_set_Reader_good ?T ?h ?_); (case T => assumption); (case h => walk_at "hp"))
  | ((with_reducible refine' i_set_Reader_good ?T ?h ?_); (case T => assumption); (case h => walk_at "hp"))
  | ((with_reducible refine' x_set_Files_disk ?T ?h ?_); (case T => assumption); (case h => walk_at "hp"))
  | ((with_reducible refine' i_set_Files_disk ?T ?h ?_); (case T => assumption); (case h => walk_at "hp"))
  | ((with_reducible refine' x_set_Files_state ?T ?h ?_); (case T => assumption); (case h => walk_at "hp"))
  | ((with_reducible refine' i_set_Files_state ?T ?h ?_); (case T => assumption); (case h => walk_at "hp"))
  | ((with_reducible refine' x_set_Files_kept ?T ?h ?_); (case T => assumption); (case h => walk_at "hp"))
  | ((with_reducible refine' i_set_Files_kept ?T ?h ?_); (case T => assumption); (case h => walk_at "hp"))
  | ((with_reducible refine' x_set_Files_slot ?T ?h ?_); (case T => assumption); (case h => walk_at "hp"))
  | ((with_reducible refine' i_set_Files_slot ?T ?h ?_); (case T => assumption); (case h => walk_at "hp"))
  | ((with_reducible refine' x_set_Files_turn ?T ?h ?_); (case T => assumption); (case h => walk_at "hp"))
  | ((with_reducible refine' i_set_Files_turn ?T ?h ?_); (case T => assumption); (case h => walk_at "hp"))
  | ((with_reducible refine' x_set_Files_used ?T ?h ?_); (case T => assumption); (case h => walk_at "hp"))
  | ((with_reducible refine' i_set_Files_used ?T ?h ?_); (case T => assumption); (case h => walk_at "hp"))
  | ((with_reducible refine' x_set_Files_is_new ?T ?h ?_); (case T => assumption); (case h => walk_at "hp"))
  | ((with_reducible refine' i_set_Files_is_new ?T ?h ?_); (case T => assumption); (case h => walk_at "hp")))
local macro_rules | `(tactic| walk_at "go1") => `(tactic| first
  | ((with_reducible refine w_var (v := ?vv) ?e ?_); (case e => rfl))
  | ((with_reducible walk_at "get"); (case T => assumption); (case h => walk_at "hp"))
  | (with_reducible refine x_bl ?_)
  | (with_reducible refine x_isN ?_) | (with_reducible refine x_notN ?_) | (with_reducible refine x_eqI ?_) | (with_reducible refine x_neI ?_) | (with_reducible refine x_eqS ?_) | (with_reducible refine x_neS ?_)
  | (with_reducible refine x_addI ?_) | (with_reducible refine x_subI ?_) | (with_reducible refine x_ltI ?_) | (with_reducible refine x_leI ?_) | (with_reducible refine x_gtI ?_) | (with_reducible refine x_geI ?_)
  | (with_reducible refine x_bv ?_) | (with_reducible refine x_part ?_) | (with_reducible refine x_neg ?_) | (with_reducible refine x_inS ?_)
  | (walk_at "set")
  | ((with_reducible refine' x_bmL ?h ?_); (case h => walk_at "hp")) | ((with_reducible refine' x_bmL0 ?h ?_); (case h => walk_at "hp")))
local macro_rules | `(tactic| walk_at "go") => `(tactic| ((try with_reducible (conv => whnf)); repeat ((walk_at "go1"); (try with_reducible (conv => whnf)))))
theorem x_mkThing {K : PySem.W.Frag} {W : WX} {σ : L2.St} {H : Hp} {Q : VK} {k : Str} {l e : Addr} {xs : List V} {kvs : List (Key × V)} (hl : SqL K H l xs) (he : Rd H e (.dK kvs))
    (q : ∀ p dx a b H', H p = none → H a = none → H b = none → Same H H' → H' p = some (oThing K dx (.str k) (.ref a) (.ref b)) → H' a = some (.lst xs) → H' b = some (.dK kvs) → Q (.ref p) H') : rNewI (He.ga K "Thing") (sp_Thing___init__ K) W σ [.str k, .ref l, .ref e] H Q := by
  refine x_make fun p dx H1 np hp s1 => ?_
  refine ⟨p, dx, l, e, k, xs, kvs, rfl, hp, sq_same s1 hl, ?_, fun a b H2 na nb k2 h1 h2 h3 => ⟨rfl, ?_⟩⟩
  · rcases he with he | ⟨o, he⟩
    · exact .inl (s1 _ _ he)
    · exact .inr ⟨o, s1 _ _ he⟩
  · exact q p dx a b H2 np (s1.free na) (s1.free nb) (keepNew (fun x hx => by rw [List.mem_singleton.mp hx]; exact np) s1 k2) h1 h2 h3
/-! ### tables of things -/
theorem mem_pt {κ β : Type} [DecidableEq κ] {l : List (κ × β)} {k : κ} {v : β} {x : κ × β} (h : x ∈ pt l k v) : x = (k, v) ∨ (x ∈ l ∧ x.1 ≠ k) := by
  cases e : lk l k with
  | none =>
    rw [pt_new v e] at h
    rcases List.mem_append.mp h with h | h
    · exact .inr ⟨h, fun z => lk_none.mp e (by rw [← z]; exact List.mem_map.mpr ⟨x, h, rfl⟩)⟩
    · exact .inl (List.mem_singleton.mp h)
  | some u =>
    rw [pt_old v e] at h
    obtain ⟨y, hy, rfl⟩ := List.mem_map.mp h
    by_cases z : y.1 = k
    · rw [if_pos z]
      exact .inl (by rw [z])
    · rw [if_neg z]
      exact .inr ⟨hy, z⟩
theorem er_pt (X : Xs) (n : Int) (t : Th) (el : Addr) : er (pt X n (t, el)) = pt (er X) n t := by
  have hk : ∀ Y : Xs, ((er Y).any fun kv => decide (kv.1 = n)) = Y.any fun kv => decide (kv.1 = n) := fun Y => by
    unfold er
    rw [List.any_map]
    rfl
  unfold pt
  rw [hk]
  split
  · unfold er
    rw [List.map_map, List.map_map]
    refine List.map_congr_left fun x _ => ?_
    show (_, _) = if x.1 = n then _ else _
    by_cases z : x.1 = n
    · simp [z]
    · simp [z]
  · unfold er
    rw [List.map_append]
    rfl
theorem er_dp (X : Xs) (n : Int) : er (dp X n) = dp (er X) n := by
  unfold er dp
  rw [List.filter_map]
  rfl
theorem lk_er (X : Xs) (n : Int) : lk (er X) n = (lk X n).map (·.1) := by
  induction X with
  | nil => rfl
  | cons x r ih =>
    show lk ((x.1, x.2.1) :: er r) n = _
    obtain ⟨a, b, c⟩ := x
    rw [lk_cons, lk_cons, ih]
    by_cases z : a = n <;> simp [z]
theorem er_keys (X : Xs) : (er X).map (·.1) = X.map (·.1) := by
  unfold er
  rw [List.map_map]
  rfl
theorem kv_and {κ β : Type} {F : V → β → Prop} {P : β → Prop} {k : κ → Key} {kvs : List (Key × V)} {l : List (κ × β)} (p : Paired (KV k F) kvs l) (h : ∀ y ∈ l, P y.2) : Paired (KV k fun v b => F v b ∧ P b) kvs l := by
  induction p with
  | nil => exact .nil
  | cons r t ih => exact .cons ⟨r.1, r.2, h _ List.mem_cons_self⟩ (ih fun y hy => h y (List.mem_cons_of_mem _ hy))
/-- the j-th entry changes by itself -/
theorem kv_upd {κ β : Type} [DecidableEq κ] {F F' : V → β → Prop} {k : κ → Key} {j : κ} {b' : β} {kvs : List (Key × V)} {l : List (κ × β)} (p : Paired (KV k F) kvs l) (hj : ∀ v b, (j, b) ∈ l → F v b → F' v b') (ho : ∀ v b i, (i, b) ∈ l → i ≠ j → F v b → F' v b) {u : β} (hu : lk l j = some u) : Paired (KV k F') kvs (pt l j b') := by
  rw [pt_old b' hu]
  clear hu
  induction p with
  | nil => exact .nil
  | cons r t ih =>
    rename_i x y xs ys
    refine .cons ?_ (ih (fun v b h => hj v b (List.mem_cons_of_mem _ h)) fun v b i h => ho v b i (List.mem_cons_of_mem _ h))
    show KV k F' x (if y.1 = j then (y.1, b') else y)
    obtain ⟨a, b⟩ := y
    by_cases z : a = j
    · subst z
      rw [if_pos rfl]
      exact ⟨r.1, hj _ _ List.mem_cons_self r.2⟩
    · rw [if_neg z]
      exact ⟨r.1, ho _ _ _ List.mem_cons_self z r.2⟩
theorem ThE.upd {K : PySem.W.Frag} {H : Hp} {v : V} {el a : Addr} {t : Th} {kvs : List (Key × V)} {o : HO} (h : ThE K H v el t) (e : H a = some (.dK kvs)) (n : el ≠ a) : ThE K (upd H a o) v el t := by
  obtain ⟨p, dx, hl, e1, h1, h2, h3⟩ := h
  refine ⟨p, dx, hl, e1, ?_, ?_, ?_⟩
  · rw [upd_ne (ne_of h1 e (by intro z; cases z))]; exact h1
  · rw [upd_ne (ne_of h2 e (by intro z; cases z))]; exact h2
  · rw [upd_ne n]; exact h3
theorem own_nil {K : PySem.W.Frag} {G : Hp} {f : Addr} (e : G f = some (.dK [])) : OwnAt K G f [] := ⟨⟨[], e, .nil⟩, fun _ h => (nomatch h), fun _ h => (nomatch h), List.nodup_nil⟩
theorem own_put {K : PySem.W.Frag} {G : Hp} {f el : Addr} {kvs : List (Key × V)} {X : Xs} {n : Int} {t : Th} {v : V} (O : OwnAt K G f X) (e : G f = some (.dK kvs)) (th : ThE K G v el t) (nf : el ≠ f) (nx : ∀ x ∈ X, x.2.2 ≠ el) :
    OwnAt K (upd G f (.dK (putK kvs (Sum.inl n) v))) f (pt X n (t, el)) := by
  obtain ⟨⟨kvs', e', p⟩, ns, ne, kd⟩ := O
  rw [e] at e'
  cases e'
  refine ⟨⟨_, upd_same, kv_put (k := Sum.inl) (fun _ _ => inl_inj) (kv_mono (F := fun v (y : Th × Addr) => ThE K G v y.2 y.1 ∧ y.2 ≠ f) (fun v y z => z.1.upd e z.2) (kv_and p ns)) (th.upd e nf)⟩, fun x hx => ?_, fun x hx y hy q => ?_, nd_pt _ kd⟩
  · rcases mem_pt hx with rfl | ⟨hx, _⟩
    · exact nf
    · exact ns x hx
  · rcases mem_pt hx with rfl | ⟨hx, _⟩
    · rcases mem_pt hy with rfl | ⟨hy, _⟩
      · rfl
      · exact absurd q.symm (nx y hy)
    · rcases mem_pt hy with rfl | ⟨hy, _⟩
      · exact absurd q (nx x hx)
      · exact ne x hx y hy q
/-- the entries of a thing are set -/
theorem own_ents {K : PySem.W.Frag} {G : Hp} {f el : Addr} {X : Xs} {n : Int} {t : Th} {es : List (Str × Int)} (O : OwnAt K G f X) (h : lk X n = some (t, el)) : OwnAt K (upd G el (.dK (ek es))) f (pt X n ({ t with ents := es }, el)) := by
  obtain ⟨⟨kvs, e, p⟩, ns, ne, kd⟩ := O
  have hm := lk_mem h
  have uq : ∀ b, (n, b) ∈ X → b = (t, el) := fun b hb => by
    have := lk_of_mem kd hb
    rw [h] at this
    exact (Option.some.inj this).symm
  have hel : G el = some (.dK (ek t.ents)) := by
    obtain ⟨u, _, q⟩ := (kv_get (k := Sum.inl) (F := fun v y => ThE K G v y.2 y.1) (fun _ _ => inl_inj) (j := n) p).1 _ h
    obtain ⟨_, _, _, _, _, _, h9⟩ := q
    exact h9
  refine ⟨⟨kvs, by rw [upd_ne (Ne.symm (ns _ hm))]; exact e, kv_upd p (fun v b hb z => ?_) (fun v b i hb hi z => ?_) h⟩, fun x hx => ?_, fun x hx y hy q => ?_, nd_pt _ kd⟩
  · cases uq b hb
    obtain ⟨p, dx, hl, e1, h1, h2, h3⟩ := z
    refine ⟨p, dx, hl, e1, ?_, ?_, upd_same⟩
    · rw [upd_ne (ne_of h1 h3 (by intro z; cases z))]; exact h1
    · rw [upd_ne (ne_of h2 h3 (by intro z; cases z))]; exact h2
  · exact z.upd hel fun q => hi (ne _ hb _ hm q)
  · rcases mem_pt hx with rfl | ⟨hx, _⟩
    · exact ns (n, t, el) hm
    · exact ns x hx
  · rcases mem_pt hx with rfl | ⟨hx, _⟩
    · rcases mem_pt hy with rfl | ⟨hy, _⟩
      · rfl
      · exact (ne y hy (n, t, el) hm q.symm).symm
    · rcases mem_pt hy with rfl | ⟨hy, _⟩
      · exact ne x hx (n, t, el) hm q
      · exact ne x hx y hy q
theorem paired_mem {α β : Type} {F : α → β → Prop} : ∀ {l1 : List α} {l2 : List β} {b : β}, Paired F l1 l2 → b ∈ l2 → ∃ a, a ∈ l1 ∧ F a b
  | _, _, _, .nil, h => by cases h
  | _, _, b, .cons r t, h => by
    rcases List.mem_cons.mp h with e | e
    · subst e
      exact ⟨_, List.mem_cons_self, r⟩
    · obtain ⟨a, h1, h2⟩ := paired_mem t e
      exact ⟨a, List.mem_cons_of_mem _ h1, h2⟩
theorem lk_take {κ β : Type} [DecidableEq κ] {S : List (κ × β)} {i : Nat} {n : κ} {t : β} (nd : (S.map (·.1)).Nodup) (h : S[i]? = some (n, t)) : lk (S.take i) n = none := by
  refine lk_none.mpr fun hm => ?_
  obtain ⟨y, hy, e⟩ := List.mem_map.mp hm
  obtain ⟨j, hj⟩ := List.mem_iff_getElem?.mp hy
  rw [List.getElem?_take] at hj
  split at hj
  · rename_i hlt
    have h1 : (S.map (·.1))[j]? = some n := by
      rw [List.getElem?_map, hj]
      exact congrArg some e
    have h2 : (S.map (·.1))[i]? = some n := by
      rw [List.getElem?_map, h]
      rfl
    have := (List.getElem?_inj (by rw [List.length_map]; exact (List.getElem?_eq_some_iff.mp hj).1) nd).mp (h1.trans h2.symm)
    omega
  · cases hj
/-! ### fresh -/
def sp_fresh (K : PySem.W.Frag) : Sp := fun vs H Q E => vs = [] ∧ ∀ s X H', er X = [(0, ⟨true, [], []⟩)] → OwnAt K (nw H H') s X → Same H H' → Q (.ref s) H'
def t_fresh (K : PySem.W.Frag) (W : WX) : TS := uRet (tDisp [(uC (.int 0), uMakeW (He.ga K "Thing") (sp_Thing___init__ K) W (uCons (uC (.str "dir")) (uCons (uLst uNil) (uCons tDNewK uNil))))])
theorem pure_fresh {K : PySem.W.Frag} {vs : List V} {H : Hp} {Q : VK} {E : XK} (h : sp_fresh K vs H Q E) : t_fresh K (WE1 E) (fin Q) (start [] vs) H := by
  obtain ⟨rfl, q⟩ := h
  show t_fresh K _ (fin Q) [] H
  unfold t_fresh
  walk_at "go"
  refine fun f nf => ?_
  have hf : (upd H f (.dK [])) f = some (.dK []) := upd_same
  have s1 : Same H (upd H f (.dK [])) := Same.new nf
  generalize upd H f (.dK []) = H1 at hf s1
  simp only [tPairs]
  refine x_lst fun l H2 nl hl s2 => ?_
  walk_at "go"
  refine w_dnew fun e H3 ne he s3 => ?_
  walk_at "go"
  refine x_mkThing (xs := []) (SqL.of (s3 _ _ hl)) (.inl he) fun p dx a b H4 np na nb s4 hp ha hb => ?_
  have s14 := (s2.trans s3).trans s4
  have hf4 := s14 _ _ hf
  refine ⟨hf4, [(Sum.inl 0, .ref p)], rfl, Nat.le_of_ble_eq_true rfl, ?_⟩
  have nbf : b ≠ f := fun z => by
    rw [z] at nb
    exact absurd nb (noneSome ((s2.trans s3) _ _ hf))
  have S0 : Same H H3 := (s1.trans s2).trans s3
  refine q f [(0, ⟨true, [], []⟩, b)] _ rfl ?_ (updNew nf (s1.trans s14))
  rw [nw_upd nf]
  exact own_put (kvs := []) (n := 0) (t := ⟨true, [], []⟩) (own_nil (nw_new nf hf4)) (nw_new nf hf4) ⟨p, dx, a, rfl, nw_new (S0.free np) hp, nw_new (S0.free na) ha, nw_new (S0.free nb) hb⟩ nbf (fun x hx => (nomatch hx))
/-! ### copied -/
def sp_copied (K : PySem.W.Frag) : Sp := fun vs H Q E => ∃ (a : Addr) (S : St), vs = [.ref a] ∧ StateAt K H a S ∧ (S.map (·.1)).Nodup ∧ S.length ≤ 1000 ∧ ∀ s X H', er X = S → OwnAt K (nw H H') s X → Same H H' → Q (.ref s) H'
def t_copied (K : PySem.W.Frag) (W : WX) : TS := uSeq (uAsg tDNewK (vName 1))
    (uSeq (tLock (uFor (uItems (tVar 0)) (gTup K 2 (gCons (vName 2) (gCons (vName 3) gNil))) (uDPut (tVar 1) (tVar 2) (uMakeW (He.ga K "Thing") (sp_Thing___init__ K) W (uCons (uFld K (tVar 3) "kind") (uCons (uFld K (tVar 3) "held") (uCons (uFld K (tVar 3) "entries") uNil)))))))
    (uRet (tVar 1)))
theorem nw_lock {H H' : Hp} {a : Addr} {o : HO} (h : (H a).isSome = true) : nw H (upd H' a o) = nw H H' := by
  funext x
  unfold nw
  by_cases e : x = a
  · subst e
    rw [if_pos h, if_pos h]
  · rw [upd_ne e]
theorem pure_copied {K : PySem.W.Frag} (T : PxThing K) {vs : List V} {H : Hp} {Q : VK} {E : XK} (h : sp_copied K vs H Q E) : t_copied K (WE1 E) (fin Q) (start ["state", "found", "number", "thing"] vs) H := by
  obtain ⟨a, S, rfl, ⟨kvs, hk, pk⟩, nd, hl, q⟩ := h
  have lk_ : kvs.length = S.length := Paired.len pk
  show t_copied K _ (fin Q) [some (.ref a), none, none, none] H
  unfold t_copied
  walk_at "go"
  refine w_dnew fun f H1 nf hf s1 => ?_
  walk_at "go"
  have hk1 := s1 _ _ hk
  refine x_lock hk1 fun od H2 e2 => ?_
  have naf : f ≠ a := fun z => by
    rw [z, hk] at nf
    cases nf
  have ha2 : H2 a = some (.frz od (.dK kvs)) := by rw [e2]; exact upd_same
  have hf2 : H2 f = some (.dK []) := by rw [e2, upd_ne naf]; exact hf
  walk_at "go"
  refine x_iitm ha2 ?_
  have HN : ∀ {H'}, Same H2 H' → True := fun _ => trivial
  refine x_forW walk_items (fun i σ H' => (∃ o1 o2, σ = [some (.ref a), some (.ref f), o1, o2]) ∧ Same (upd H a (.frz od (.dK kvs))) H' ∧ ∃ X, OwnAt K (nw H H') f X ∧ er X = S.take i) ⟨⟨_, _, rfl⟩, ?_, [], own_nil (nw_new nf hf2), rfl⟩ (fun i σ H' _ h => h.2.1 _ _ upd_same) (fun i x σ H' H'' hi h hy => ?_) (fun σ H' h => ?_)
  · rw [e2]
    intro x o ho
    by_cases z : x = a
    · subst z
      rw [upd_same] at ho ⊢
      exact ho
    · rw [upd_ne z] at ho ⊢
      exact s1 _ _ ho
  · obtain ⟨⟨o1, o2, rfl⟩, s, X, O, eX⟩ := h
    obtain ⟨t, x1, y1, rfl, nt, rfl, ex, ey⟩ := hy
    have hiS : i < S.length := by omega
    obtain ⟨⟨k, v⟩, hkv, ek_, th⟩ := paired_at (i := i) pk (List.getElem?_eq_getElem hiS)
    have ex : (kvs[i]?.map fun kv => kV kv.1) = some x1 := ex
    have ey : kvs[i]?.map Prod.snd = some y1 := ey
    rw [hkv] at ex ey
    cases ex
    cases ey
    simp only at ek_ th
    generalize hSi : S[i] = y at ek_ th
    obtain ⟨n, t0⟩ := y
    obtain ⟨el, p, dx, hlh, rfl, h1, h2, h3⟩ := th
    have nela : el ≠ a := fun z => by
      rw [z, hk] at h3
      have e9 : kvs = ek t0.ents := by
        have := Option.some.inj h3
        injection this
      rw [e9] at hkv
      unfold ek at hkv
      rw [List.getElem?_map] at hkv
      obtain ⟨w, _, hw⟩ := Option.map_eq_some_iff.mp hkv
      have := congrArg Prod.fst hw
      rw [show ((k, V.ref p).1 : Key) = k from rfl, ek_] at this
      cases this
    have g1 : upd H' t (.tup [kV k, .ref p]) p = some (oThing K dx (.str (kindS t0.dir)) (.ref hlh) (.ref el)) := Same.new nt _ _ (s _ _ (by rw [upd_ne (ne_of h1 hk (by intro z; cases z))]; exact h1))
    have g2 : upd H' t (.tup [kV k, .ref p]) hlh = some (.lst (t0.held.map V.int)) := Same.new nt _ _ (s _ _ (by rw [upd_ne (ne_of h2 hk (by intro z; cases z))]; exact h2))
    have g3 : upd H' t (.tup [kV k, .ref p]) el = some (.dK (ek t0.ents)) := Same.new nt _ _ (s _ _ (by rw [upd_ne nela]; exact h3))
    have sT : Same H' (upd H' t (.tup [kV k, .ref p])) := Same.new nt
    have gT : upd H' t (.tup [kV k, .ref p]) t = some (.tup [kV k, .ref p]) := upd_same
    generalize upd H' t (.tup [kV k, .ref p]) = H3 at g1 g2 g3 sT gT
    refine x_gtupN gT ?_
    walk_at "go"
    refine x_mkThing (SqL.of g2) (.inl g3) fun p2 dx2 a2 b2 H4 np2 na2 nb2 s4 hp2 ha2' hb2 => ?_
    walk_at "go"
    obtain ⟨⟨kvs2, e2', pk2⟩, _, _, _⟩ := id O
    have fr : ∀ {z : Addr}, H3 z = none → H z = none := fun hz => by
      have z1 := s.free (sT.free hz)
      exact freeUpd z1
    have O4 : OwnAt K (nw H H4) f X := O.same (nw_sameR (Same.refl H) (sT.trans s4))
    have ef4 : nw H H4 f = some (.dK kvs2) := nw_sameR (Same.refl H) (sT.trans s4) _ _ e2'
    have ef : H4 f = some (.dK kvs2) := (nw_none ef4).2
    have lX : kvs2.length = X.length := Paired.len pk2
    have lX2 : X.length ≤ S.length := by
      have := congrArg List.length eX
      unfold er at this
      rw [List.length_map, List.length_take] at this
      omega
    refine x_dput ef (by omega) rfl ?_
    refine ⟨⟨_, _, rfl⟩, ?_, pt X n (t0, b2), ?_, ?_⟩
    · have s5 := (s.trans sT).trans s4
      intro x o ho
      have nx : x ≠ f := fun z => by
        rw [z, upd_ne naf, nf] at ho
        cases ho
      rw [upd_ne nx]
      exact s5 _ _ ho
    · rw [nw_upd nf, ek_]
      refine own_put O4 ef4 ⟨p2, dx2, a2, rfl, nw_new (fr np2) hp2, nw_new (fr na2) ha2', nw_new (fr nb2) hb2⟩ ?_ ?_
      · intro z
        rw [z] at nb2
        have := sT _ _ (nw_none e2').2
        rw [nb2] at this
        cases this
      · intro x hx z
        have hb3 : nw H H' b2 ≠ none := by
          obtain ⟨_, _, hq⟩ := paired_mem pk2 hx
          obtain ⟨_, _, _, _, _, _, h9⟩ := hq.2
          rw [z] at h9
          rw [h9]
          exact fun w => by cases w
        have : H' b2 = none := sT.free nb2
        refine hb3 ?_
        unfold nw
        rw [this]
        split <;> rfl
    · rw [er_pt, eX, pt_new, take_snoc (by rw [List.getElem?_eq_getElem hiS, hSi])]
      exact lk_take nd (by rw [List.getElem?_eq_getElem hiS, hSi])
  · obtain ⟨⟨o1, o2, rfl⟩, s, X, O, eX⟩ := h
    refine ⟨s _ _ upd_same, ?_⟩
    walk_at "go"
    refine q f X _ (by rw [eX, lk_, List.take_length]) ?_ (Same.unlock hk s)
    rw [nw_lock (by rw [hk]; rfl)]
    exact O
end SP

set_option Elab.async false
set_option linter.all false
set_option maxRecDepth 100000
set_option maxHeartbeats 4000000
/-! States looked at. -/
namespace SP
open PySem PySem.Spec PyProof.Rows L2
local macro_rules | `(tactic| walk_at "hp") => `(tactic| first
  | assumption
  | exact upd_same
  | (refine' sameAt ?sA ?hA; (case sA => assumption); (case hA => walk_at "hp"))
  | (refine' Eq.trans (upd_ne ?nA) ?hA; (case nA => walk_at "ne"); (case hA => walk_at "hp")))
local macro_rules | `(tactic| walk_at "ne") => `(tactic| first
  | assumption
  | (refine' Ne.symm ?hA; assumption)
  | (refine' ne_of_none (H := _) ?hA (by assumption); walk_at "hp")
  | (refine' Ne.symm (ne_of_none (H := _) ?hA (by assumption)); walk_at "hp")
  | (refine' ne_of ?hA ?hB ?hC; (case hA => assumption); (case hB => walk_at "hp"); (case hC => (intro z; cases z))))
local macro_rules | `(tactic| walk_at "sm") => `(tactic| first
  | exact Same.refl _
  | assumption
  | (refine' sameTr ?sA ?sB; (case sA => assumption); (case sB => walk_at "sm")))
local macro_rules | `(tactic| walk_at "dm") => `(tactic| first
  | exact dmRefl
  | assumption
  | (refine' dmUpd ?dA; (case dA => walk_at "dm"))
  | (refine' dmSame ?sA ?dA; (case sA => assumption); (case dA => walk_at "dm")))
local macro_rules | `(tactic| walk_at "fr") => `(tactic| first
  | assumption
  | (refine' dmAt ?dA ?hA; (case hA => assumption); (case dA => walk_at "dm")))
local macro_rules | `(tactic| walk_at "ab") => `(tactic| (exfalso; refine absurd ?hA (noneSome ?hB); (case hB => walk_at "hp"); (case hA => assumption)))
local macro_rules | `(tactic| walk_at "kp") => `(tactic| first
  | exact Keep.refl
  | assumption
  | (refine' Keep.trans ?kA (keepUpd ?kB ?kC ?kD); (case kB => simp); (case kC => walk_at "hp"); (case kD => (intro xs z; cases z)); (case kA => walk_at "kp"))
  | (refine' keepTr ?kB ?kA; (case kB => assumption); (case kA => walk_at "kp"))
  | (refine' keepSm ?kB ?kA; (case kB => assumption); (case kA => walk_at "kp")))
local macro_rules | `(tactic| walk_at "get") => `(tactic| first
  | (refine' x_get_Files_state ?T ?h ?_) | (refine' x_get_Thing_kind ?T ?h ?_) | (refine' x_get_Thing_entries ?T ?h ?_) | (refine' x_get_Thing_held ?T ?h ?_)
  | (refine' x_get_Files_disk ?T ?h ?_) | (refine' x_get_Files_kept ?T ?h ?_) | (refine' x_get_Files_used ?T ?h ?_)
  | (refine' x_get_Disk_blocks ?T ?h ?_) | (refine' x_get_Disk_log ?T ?h ?_)
  | (refine' x_get_Reader_row ?T ?h ?_) | (refine' x_get_Reader_at ?T ?h ?_) | (refine' x_get_Reader_good ?T ?h ?_)
  | (refine' x_get_Files_slot ?T ?h ?_) | (refine' x_get_Files_turn ?T ?h ?_) | (refine' x_get_Files_is_new ?T ?h ?_))
local macro_rules | `(tactic| walk_at "set") => `(tactic| first
  | ((with_reducible refine' x_set_Disk_blocks ?T ?h ?_); (case T => assumption); (case h => walk_at "hp"))
  | ((with_reducible refine' i_set_Disk_blocks ?T ?h ?_); (case T => assumption); (case h => walk_at "hp"))
  | ((with_reducible refine' x_set_Disk_log ?T ?h ?_); (case T => assumption); (case h => walk_at "hp"))
  | ((with_reducible refine' i_set_Disk_log ?T ?h ?_); (case T => assumption); (case h => walk_at "hp"))
  | ((with_reducible refine' x_set_Thing_kind ?T ?h ?_); (case T => assumption); (case h => walk_at "hp"))
  | ((with_reducible refine' i_set_Thing_kind ?T ?h ?_); (case T => assumption); (case h => walk_at "hp"))
  | ((with_reducible refine' x_set_Thing_held ?T ?h ?_); (case T => assumption); (case h => walk_at "hp"))
  | ((with_reducible refine' i_set_Thing_held ?T ?h ?_); (case T => assumption); (case h => walk_at "hp"))
  | ((with_reducible refine' x_set_Thing_entries ?T ?h ?_); (case T => assumption); (case h => walk_at "hp"))
  | ((with_reducible refine' i_set_Thing_entries ?T ?h ?_); (case T => assumption); (case h => walk_at "hp"))
  | ((with_reducible refine' x_set_Reader_row ?T ?h ?_); (case T => assumption); (case h => walk_at "hp"))
  | ((with_reducible refine' i_set_Reader_row ?T ?h ?_); (case T => assumption); (case h => walk_at "hp"))
  | ((with_reducible refine' x_set_Reader_at ?T ?h ?_); (case T => assumption); (case h => walk_at "hp"))
  | ((with_reducible refine' i_set_Reader_at ?T ?h ?_); (case T => assumption); (case h => walk_at "hp"))
  | ((with_reducible refine' x_set_Reader_good ?T ?h ?_); (case T => assumption); (case h => walk_at "hp"))
  | ((with_reducible refine' i_set_Reader_good ?T ?h ?_); (case T => assumption); (case h => walk_at "hp"))
  | ((with_reducible refine' x_set_Files_disk ?T ?h ?_); (case T => assumption); (case h => walk_at "hp"))
  | ((with_reducible refine' i_set_Files_disk ?T ?h ?_); (case T => assumption); (case h => walk_at "hp"))
  | ((with_reducible refine' x_set_Files_state ?T ?h ?_); (case T => assumption); (case h => walk_at "hp"))
  | ((with_reducible refine' i_set_Files_state ?T ?h ?_); (case T => assumption); (case h => walk_at "hp"))
  | ((with_reducible refine' x_set_Files_kept ?T ?h ?_); (case T => assumption); (case h => walk_at "hp"))
  | ((with_reducible refine' i_set_Files_kept ?T ?h ?_); (case T => assumption); (case h => walk_at "hp"))
  | ((with_reducible refine' x_set_Files_slot ?T ?h ?_); (case T => assumption); (case h => walk_at "hp"))
  | ((with_reducible refine' i_set_Files_slot ?T ?h ?_); (case T => assumption); (case h => walk_at "hp"))
  | ((with_reducible refine' x_set_Files_turn ?T ?h ?_); (case T => assumption); (case h => walk_at "hp"))
  | ((with_reducible refine' i_set_Files_turn ?T ?h ?_); (case T => assumption); (case h => walk_at "hp"))
  | ((with_reducible refine' x_set_Files_used ?T ?h ?_); (case T => assumption); (case h => walk_at "hp"))
  | ((with_reducible refine' i_set_Files_used ?T ?h ?_); (case T => assumption); (case h => walk_at "hp"))
  | ((with_reducible refine' x_set_Files_is_new ?T ?h ?_); (case T => assumption); (case h => walk_at "hp"))
  | ((with_reducible refine' i_set_Files_is_new ?T ?h ?_); (case T => assumption); (case h => walk_at "hp")))
local macro_rules | `(tactic| walk_at "go1") => `(tactic| first
  | ((with_reducible refine w_var (v := ?vv) ?e ?_); (case e => rfl))
  | ((with_reducible walk_at "get"); (case T => assumption); (case h => walk_at "hp"))
  | (with_reducible refine x_bl ?_)
  | (with_reducible refine x_isN ?_) | (with_reducible refine x_notN ?_) | (with_reducible refine x_eqI ?_) | (with_reducible refine x_neI ?_) | (with_reducible refine x_eqS ?_) | (with_reducible refine x_neS ?_)
  | (with_reducible refine x_addI ?_) | (with_reducible refine x_subI ?_) | (with_reducible refine x_ltI ?_) | (with_reducible refine x_leI ?_) | (with_reducible refine x_gtI ?_) | (with_reducible refine x_geI ?_)
  | (with_reducible refine x_bv ?_) | (with_reducible refine x_part ?_) | (with_reducible refine x_neg ?_) | (with_reducible refine x_inS ?_)
  | (walk_at "set")
  | ((with_reducible refine' x_bmL ?h ?_); (case h => walk_at "hp")) | ((with_reducible refine' x_bmL0 ?h ?_); (case h => walk_at "hp")))
local macro_rules | `(tactic| walk_at "go") => `(tactic| ((try with_reducible (conv => whnf)); repeat ((walk_at "go1"); (try with_reducible (conv => whnf)))))
/-- what is answered: a value, or an error's class; nothing that stood is changed -/
def Out (K : PySem.W.Frag) (H : Hp) (Q : VK) (E : XK) : Except Str V → Prop
  | .ok v => ∀ H', Same H H' → Q v H'
  | .error x => ∀ H', Same H H' → Exn K E x H'
theorem Out.ok {K : PySem.W.Frag} {H H' : Hp} {Q : VK} {E : XK} {r : Except Str V} {v : V} (h : Out K H Q E r) (e : r = .ok v) (s : Same H H') : Q v H' := by
  subst e
  exact h H' s
theorem Out.err {K : PySem.W.Frag} {H H' : Hp} {Q : VK} {E : XK} {r : Except Str V} {x : Str} (h : Out K H Q E r) (e : r = .error x) (s : Same H H') : Exn K E x H' := by
  subst e
  exact h H' s
theorem state_get {K : PySem.W.Frag} {H : Hp} {a : Addr} {S : St} {n : Int} {t : Th} (h : StateAt K H a S) (e : lk S n = some t) : ∃ kvs v, H a = some (.dK kvs) ∧ valV kvs (Sum.inl n) = some v ∧ ThAt K H v t := by
  obtain ⟨kvs, ha, p⟩ := h
  obtain ⟨v, e1, e2⟩ := (kv_get (k := Sum.inl) (F := ThAt K H) (fun _ _ => inl_inj) (j := n) p).1 t e
  exact ⟨kvs, v, ha, e1, e2⟩
theorem state_in {K : PySem.W.Frag} {H : Hp} {a : Addr} {S : St} {n : Int} (h : StateAt K H a S) : ∃ kvs, H a = some (.dK kvs) ∧ (valV kvs (Sum.inl n)).isSome = (lk S n).isSome := by
  obtain ⟨kvs, ha, p⟩ := h
  have g := kv_get (k := Sum.inl) (F := ThAt K H) (fun _ _ => inl_inj) (j := n) p
  refine ⟨kvs, ha, ?_⟩
  cases e : lk S n with
  | none =>
    rw [g.2 e]
    rfl
  | some t =>
    obtain ⟨v, e1, _⟩ := g.1 t e
    rw [e1]
    rfl
/-! ### least_free -/
def sp_least_free (K : PySem.W.Frag) : Sp := fun vs H Q E => ∃ (a : Addr) (S : St) (n : Nat), vs = [.ref a] ∧ StateAt K H a S ∧ lk S (n : Int) = none ∧ (∀ m : Nat, m < n → (lk S (m : Int)).isSome = true) ∧ Out K H Q E (.ok (.int n))
def t_least_free (K : PySem.W.Frag) (W : WX) : TS := uSeq (uAsg (uC (.int 0)) (vName 1))
    (uSeq (tWhile (uTest (uDIn (tVar 1) (tVar 0))) (uAsg (uOp rAddI (tVar 1) (uC (.int 1))) (vName 1)))
    (uRet (tVar 1)))
theorem pure_least_free {K : PySem.W.Frag} {vs : List V} {H : Hp} {Q : VK} {E : XK} (h : sp_least_free K vs H Q E) : t_least_free K (WE1 E) (fin Q) (start ["state", "number"] vs) H := by
  obtain ⟨a, S, n, rfl, hS, h0, h1, q⟩ := h
  show t_least_free K _ (fin Q) [some (.ref a), none] H
  unfold t_least_free
  walk_at "go"
  refine ⟨fun m σ H' => ∃ j, j ≤ n ∧ m = n - j ∧ σ = [some (.ref a), some (.int (j : Int))] ∧ H' = H, ⟨n, 0, Nat.zero_le _, rfl, rfl, rfl⟩, fun m σ H' h => ?_⟩
  obtain ⟨j, hj, rfl, rfl, rfl⟩ := h
  obtain ⟨kvs, ha, e⟩ := state_in (n := (j : Int)) hS
  walk_at "go"
  refine x_din (.inl ha) (k := Sum.inl (j : Int)) rfl e ?_
  walk_at "go"
  by_cases hlt : j < n
  · refine x_ifT (h1 j hlt) ?_
    refine ⟨fun σ H'' => σ = [some (.ref a), some (.int ((j + 1 : Nat) : Int))] ∧ H'' = H', fun σ' H'' h => ⟨n - (j + 1), by omega, j + 1, hlt, rfl, h.1, h.2⟩, ?_⟩
    walk_at "go"
    exact ⟨rfl, rfl⟩
  · have : j = n := by omega
    subst this
    refine x_ifF (by rw [h0]; rfl) ?_
    walk_at "go"
    exact q H' (Same.refl _)
/-! ### entry_of, walked, place_of -/
def entryOf (S : St) (n : Int) (z : Str) : Except Str Int := match lk S n with
  | none => .error ""
  | some t => if t.dir = true then (match lk t.ents z with
    | none => .error "NoThing"
    | some i => .ok i) else .error "NoDirectory"
def vI : Except Str Int → Except Str V
  | .ok i => .ok (.int i)
  | .error x => .error x
def sp_entry_of (K : PySem.W.Frag) : Sp := fun vs H Q E => ∃ (a : Addr) (S : St) (n : Int) (z : Str), vs = [.ref a, .int n, .str z] ∧ StateAt K H a S ∧ (lk S n).isSome = true ∧ Out K H Q E (vI (entryOf S n z))
def t_entry_of (K : PySem.W.Frag) (W : WX) : TS := uSeq (uIfS (uTest (uOp rNe (uFld K (uDGet (tVar 0) (tVar 1)) "kind") (uC (.str "dir")))) (uRaiseW W (He.ga K "NoDirectory")) uNext)
    (uSeq (uIfS (uTest (uDNotIn (tVar 2) (uFld K (uDGet (tVar 0) (tVar 1)) "entries"))) (uRaiseW W (He.ga K "NoThing")) uNext)
    (uRet (uDGet (uFld K (uDGet (tVar 0) (tVar 1)) "entries") (tVar 2))))
theorem kind_dir (b : Bool) : decide (kindS b = "dir") = b := by cases b <;> rfl
theorem pure_entry_of {K : PySem.W.Frag} (T : PxThing K) {vs : List V} {H : Hp} {Q : VK} {E : XK} (h : sp_entry_of K vs H Q E) : t_entry_of K (WE1 E) (fin Q) (start ["state", "number", "name"] vs) H := by
  obtain ⟨a, S, n, z, rfl, hS, hn, q⟩ := h
  obtain ⟨t, et⟩ := Option.isSome_iff_exists.mp hn
  obtain ⟨kvs, v, ha, hv, el, p, dx, hl, rfl, h1, h2, h3⟩ := state_get hS et
  have qe : entryOf S n z = if t.dir = true then (match lk t.ents z with
    | none => .error "NoThing"
    | some i => .ok i) else .error "NoDirectory" := by unfold entryOf; rw [et]
  show t_entry_of K _ (fin Q) [some (.ref a), some (.int n), some (.str z)] H
  unfold t_entry_of
  walk_at "go"
  refine x_dget (.inl ha) (k := Sum.inl n) rfl hv ?_
  walk_at "go"
  rw [kind_dir]
  cases hd : t.dir with
  | false =>
    refine x_ifT rfl ?_
    walk_at "go"
    exact q.err (by rw [qe, if_neg (by rw [hd]; decide)]; rfl) (Same.refl H)
  | true =>
    rw [if_pos hd] at qe
    refine x_ifF rfl ?_
    walk_at "go"
    refine x_dget (.inl ha) (k := Sum.inl n) rfl hv ?_
    walk_at "go"
    refine x_dni (.inl h3) (k := Sum.inr z) rfl (b := (lk t.ents z).isSome) (by rw [ek_get, Option.isSome_map]) ?_
    walk_at "go"
    cases hz : lk t.ents z with
    | none =>
      refine x_ifT rfl ?_
      walk_at "go"
      exact q.err (by rw [qe, hz]; rfl) (Same.refl H)
    | some i =>
      refine x_ifF rfl ?_
      walk_at "go"
      refine x_dget (.inl ha) (k := Sum.inl n) rfl hv ?_
      walk_at "go"
      refine x_dget (.inl h3) (k := Sum.inr z) rfl (by rw [ek_get, hz]; rfl) ?_
      exact q.ok (by rw [qe, hz]; rfl) (Same.refl H)
/-- every entry leads to a thing, the root is there -/
structure Clo (S : St) : Prop where
  r : (lk S 0).isSome = true
  c : ∀ n t, lk S n = some t → ∀ z i, lk t.ents z = some i → (lk S i).isSome = true
theorem Clo.entry {S : St} (c : Clo S) {n i : Int} {z : Str} (h : entryOf S n z = .ok i) : (lk S i).isSome = true := by
  unfold entryOf at h
  split at h
  · cases h
  · rename_i t et
    split at h
    · split at h
      · cases h
      · rename_i j ej
        cases h
        exact c.c _ _ et _ _ ej
    · cases h
def walkedF (S : St) : Int → List Str → Except Str Int
  | n, [] => .ok n
  | n, z :: r => match entryOf S n z with
    | .ok i => walkedF S i r
    | .error x => .error x
theorem Clo.walk {S : St} (c : Clo S) : ∀ {ns : List Str} {n i : Int}, (lk S n).isSome = true → walkedF S n ns = .ok i → (lk S i).isSome = true
  | [], n, i, h, e => by cases e; exact h
  | z :: r, n, i, h, e => by
    unfold walkedF at e
    split at e
    · rename_i j ej
      exact c.walk (c.entry ej) e
    · cases e
theorem walked_snoc {S : St} {z : Str} : ∀ {ns : List Str} {n : Int}, walkedF S n (ns ++ [z]) = (match walkedF S n ns with
    | .ok i => entryOf S i z
    | .error x => .error x)
  | [], n => by
    show walkedF S n [z] = entryOf S n z
    unfold walkedF
    split
    · rename_i i e
      rw [e]
      rfl
    · rename_i x e
      rw [e]
  | y :: r, n => by
    show walkedF S n (y :: (r ++ [z])) = _
    unfold walkedF
    split
    · rename_i i e
      exact walked_snoc
    · rfl
theorem walked_err {S : St} {x : Str} {r : List Str} : ∀ {ns : List Str} {n : Int}, walkedF S n ns = .error x → walkedF S n (ns ++ r) = .error x
  | [], n, h => by cases h
  | y :: t, n, h => by
    show walkedF S n (y :: (t ++ r)) = _
    unfold walkedF at h ⊢
    split
    · rename_i i e
      rw [e] at h
      exact walked_err h
    · rename_i w e
      rw [e] at h
      exact h
def sp_walked (K : PySem.W.Frag) : Sp := fun vs H Q E => ∃ (a b : Addr) (S : St) (ns : List Str), vs = [.ref a, .ref b] ∧ StateAt K H a S ∧ Clo S ∧ H b = some (.lst (ns.map V.str)) ∧ Out K H Q E (vI (walkedF S 0 ns))
def t_walked (K : PySem.W.Frag) (W : WX) : TS := uSeq (uAsg (uC (.int 0)) (vName 2))
    (uSeq (uFor (jList K (tVar 1)) (vName 3) (uAsg (uCallW (sp_entry_of K) W (uCons (tVar 0) (uCons (tVar 2) (uCons (tVar 3) uNil)))) (vName 2)))
    (uRet (tVar 2)))
theorem pure_walked {K : PySem.W.Frag} {vs : List V} {H : Hp} {Q : VK} {E : XK} (h : sp_walked K vs H Q E) : t_walked K (WE1 E) (fin Q) (start ["state", "names", "number", "name"] vs) H := by
  obtain ⟨a, b, S, ns, rfl, hS, c, hb, q⟩ := h
  show t_walked K _ (fin Q) [some (.ref a), some (.ref b), none, none] H
  unfold t_walked
  walk_at "go"
  refine x_ilist (SqL.of hb) ?_
  refine x_forL (xs := ns.map V.str) (fun i σ H' => (∃ n o, σ = [some (.ref a), some (.ref b), some (.int n), o] ∧ walkedF S 0 (ns.take i) = .ok n) ∧ Same H H') ⟨⟨0, none, rfl, rfl⟩, Same.refl _⟩ (fun i σ H' _ h => SqL.of (h.2 _ _ hb)) (fun i x σ H' hx h => ?_) (fun σ H' h => ?_)
  · obtain ⟨⟨n, o, rfl, hw⟩, s⟩ := h
    rw [List.getElem?_map] at hx
    obtain ⟨z, hz, rfl⟩ := Option.map_eq_some_iff.mp hx
    have hn := c.walk c.r hw
    have hw2 : walkedF S 0 (ns.take (i + 1)) = entryOf S n z := by rw [take_snoc hz, walked_snoc, hw]
    walk_at "go"
    refine ⟨a, S, n, z, rfl, hS.same s, hn, ?_⟩
    cases he : entryOf S n z with
    | ok j =>
      intro H2 s2
      walk_at "go"
      exact ⟨⟨j, _, rfl, by rw [hw2, he]⟩, s.trans s2⟩
    | error x =>
      intro H2 s2
      refine q.err ?_ (s.trans s2)
      rw [he] at hw2
      have := walked_err (r := ns.drop (i + 1)) hw2
      rw [List.take_append_drop] at this
      rw [this]
      rfl
  · obtain ⟨⟨n, o, rfl, hw⟩, s⟩ := h
    walk_at "go"
    rw [List.length_map, List.take_length] at hw
    exact q.ok (by rw [hw]; rfl) s
def placeOf (S : St) (ns : List Str) : Except Str Int := match walkedF S 0 ns.dropLast with
  | .ok n => (match lk S n with
    | some t => if t.dir = true then .ok n else .error "NoDirectory"
    | none => .error "")
  | .error x => .error x
theorem cutV_last (ns : List Str) : cutV (ns.map V.str) none (some (-1)) = ns.dropLast.map V.str := by
  unfold cutV HT.sIx
  simp only [List.drop_zero, List.length_map, Nat.sub_zero, ← List.map_take, List.dropLast_eq_take]
  congr 2
  simp
  omega
def sp_place_of (K : PySem.W.Frag) : Sp := fun vs H Q E => ∃ (a b : Addr) (S : St) (ns : List Str), vs = [.ref a, .ref b] ∧ StateAt K H a S ∧ Clo S ∧ H b = some (.lst (ns.map V.str)) ∧ Out K H Q E (vI (placeOf S ns))
def t_place_of (K : PySem.W.Frag) (W : WX) : TS := uSeq (uAsg (uCallW (sp_walked K) W (uCons (tVar 0) (uCons (uSl (rSlL K) (tVar 1) uNoPart (uPart (uUn rNegI (uC (.int 1))))) uNil))) (vName 2))
    (uSeq (uIfS (uTest (uOp rNe (uFld K (uDGet (tVar 0) (tVar 2)) "kind") (uC (.str "dir")))) (uRaiseW W (He.ga K "NoDirectory")) uNext)
    (uRet (tVar 2)))
theorem pure_place_of {K : PySem.W.Frag} (T : PxThing K) {vs : List V} {H : Hp} {Q : VK} {E : XK} (h : sp_place_of K vs H Q E) : t_place_of K (WE1 E) (fin Q) (start ["state", "names", "number"] vs) H := by
  obtain ⟨a, b, S, ns, rfl, hS, c, hb, q⟩ := h
  show t_place_of K _ (fin Q) [some (.ref a), some (.ref b), none] H
  unfold t_place_of
  walk_at "go"
  refine x_slL (SqL.of hb) fun l H1 nl hl s1 => ?_
  rw [cutV_last] at hl
  walk_at "go"
  refine ⟨a, l, S, _, rfl, hS.same s1, c, hl, ?_⟩
  cases hw : walkedF S 0 ns.dropLast with
  | error x =>
    intro H2 s2
    exact q.err (by unfold placeOf; rw [hw]; rfl) (s1.trans s2)
  | ok n =>
    intro H2 s2
    obtain ⟨t, et⟩ := Option.isSome_iff_exists.mp (c.walk c.r hw)
    obtain ⟨kvs, v, ha, hv, el, p, dx, hl2, rfl, h1, h2, h3⟩ := state_get (hS.same (s1.trans s2)) et
    have qe : placeOf S ns = if t.dir = true then .ok n else .error "NoDirectory" := by unfold placeOf; rw [hw]; show (match lk S n with | some t => _ | none => _) = _; rw [et]
    walk_at "go"
    refine x_dget (.inl ha) (k := Sum.inl n) rfl hv ?_
    walk_at "go"
    rw [kind_dir]
    cases hd : t.dir with
    | false =>
      refine x_ifT rfl ?_
      walk_at "go"
      exact q.err (by rw [qe, if_neg (by rw [hd]; decide)]; rfl) (s1.trans s2)
    | true =>
      refine x_ifF rfl ?_
      walk_at "go"
      exact q.ok (by rw [qe, if_pos hd]; rfl) (s1.trans s2)
end SP

set_option Elab.async false
set_option linter.all false
set_option maxRecDepth 100000
set_option maxHeartbeats 4000000
/-! Bytes of states. -/
namespace SP
open PySem PySem.Spec PyProof.Rows L2
local macro_rules | `(tactic| walk_at "hp") => `(tactic| first
  | assumption
  | exact upd_same
  | (refine' sameAt ?sA ?hA; (case sA => assumption); (case hA => walk_at "hp"))
  | (refine' Eq.trans (upd_ne ?nA) ?hA; (case nA => walk_at "ne"); (case hA => walk_at "hp")))
local macro_rules | `(tactic| walk_at "ne") => `(tactic| first
  | assumption
  | (refine' Ne.symm ?hA; assumption)
  | (refine' ne_of_none (H := _) ?hA (by assumption); walk_at "hp")
  | (refine' Ne.symm (ne_of_none (H := _) ?hA (by assumption)); walk_at "hp")
  | (refine' ne_of ?hA ?hB ?hC; (case hA => assumption); (case hB => walk_at "hp"); (case hC => (intro z; cases z))))
local macro_rules | `(tactic| walk_at "sm") => `(tactic| first
  | exact Same.refl _
  | assumption
  | (refine' sameTr ?sA ?sB; (case sA => assumption); (case sB => walk_at "sm")))
local macro_rules | `(tactic| walk_at "dm") => `(tactic| first
  | exact dmRefl
  | assumption
  | (refine' dmUpd ?dA; (case dA => walk_at "dm"))
  | (refine' dmSame ?sA ?dA; (case sA => assumption); (case dA => walk_at "dm")))
local macro_rules | `(tactic| walk_at "fr") => `(tactic| first
  | assumption
  | (refine' dmAt ?dA ?hA; (case hA => assumption); (case dA => walk_at "dm")))
local macro_rules | `(tactic| walk_at "ab") => `(tactic| (exfalso; refine absurd ?hA (noneSome ?hB); (case hB => walk_at "hp"); (case hA => assumption)))
local macro_rules | `(tactic| walk_at "kp") => `(tactic| first
  | exact Keep.refl
  | assumption
  | (refine' Keep.trans ?kA (keepUpd ?kB ?kC ?kD); (case kB => simp); (case kC => walk_at "hp"); (case kD => (intro xs z; cases z)); (case kA => walk_at "kp"))
  | (refine' keepTr ?kB ?kA; (case kB => assumption); (case kA => walk_at "kp"))
  | (refine' keepSm ?kB ?kA; (case kB => assumption); (case kA => walk_at "kp")))
local macro_rules | `(tactic| walk_at "get") => `(tactic| first
  | (refine' x_get_Files_state ?T ?h ?_) | (refine' x_get_Thing_kind ?T ?h ?_) | (refine' x_get_Thing_entries ?T ?h ?_) | (refine' x_get_Thing_held ?T ?h ?_)
  | (refine' x_get_Files_disk ?T ?h ?_) | (refine' x_get_Files_kept ?T ?h ?_) | (refine' x_get_Files_used ?T ?h ?_)
  | (refine' x_get_Disk_blocks ?T ?h ?_) | (refine' x_get_Disk_log ?T ?h ?_)
  | (refine' x_get_Reader_row ?T ?h ?_) | (refine' x_get_Reader_at ?T ?h ?_) | (refine' x_get_Reader_good ?T ?h ?_)
  | (refine' x_get_Files_slot ?T ?h ?_) | (refine' x_get_Files_turn ?T ?h ?_) | (refine' x_get_Files_is_new ?T ?h ?_))
local macro_rules | `(tactic| walk_at "set") => `(tactic| first
  | ((with_reducible refine' x_set_Disk_blocks ?T ?h ?_); (case T => assumption); (case h => walk_at "hp"))
  | ((with_reducible refine' i_set_Disk_blocks ?T ?h ?_); (case T => assumption); (case h => walk_at "hp"))
  | ((with_reducible refine' x_set_Disk_log ?T ?h ?_); (case T => assumption); (case h => walk_at "hp"))
  | ((with_reducible refine' i_set_Disk_log ?T ?h ?_); (case T => assumption); (case h => walk_at "hp"))
  | ((with_reducible refine' x_set_Thing_kind ?T ?h ?_); (case T => assumption); (case h => walk_at "hp"))
  | ((with_reducible refine' i_set_Thing_kind ?T ?h ?_); (case T => assumption); (case h => walk_at "hp"))
  | ((with_reducible refine' x_set_Thing_held ?T ?h ?_); (case T => assumption); (case h => walk_at "hp"))
  | ((with_reducible refine' i_set_Thing_held ?T ?h ?_); (case T => assumption); (case h => walk_at "hp"))
  | ((with_reducible refine' x_set_Thing_entries ?T ?h ?_); (case T => assumption); (case h => walk_at "hp"))
  | ((with_reducible refine' i_set_Thing_entries ?T ?h ?_); (case T => assumption); (case h => walk_at "hp"))
  | ((with_reducible refine' x_set_Reader_row ?T ?h ?_); (case T => assumption); (case h => walk_at "hp"))
  | ((with_reducible refine' i_set_Reader_row ?T ?h ?_); (case T => assumption); (case h => walk_at "hp"))
  | ((with_reducible refine' x_set_Reader_at ?T ?h ?_); (case T => assumption); (case h => walk_at "hp"))
  | ((with_reducible refine' i_set_Reader_at ?T ?h ?_); (case T => assumption); (case h => walk_at "hp"))
  | ((with_reducible refine' x_set_Reader_good ?T ?h ?_); (case T => assumption); (case h => walk_at "hp"))
  | ((with_reducible refine' i_set_Reader_good ?T ?h ?_); (case T => assumption); (case h => walk_at "hp"))
  | ((with_reducible refine' x_set_Files_disk ?T ?h ?_); (case T => assumption); (case h => walk_at "hp"))
  | ((with_reducible refine' i_set_Files_disk ?T ?h ?_); (case T => assumption); (case h => walk_at "hp"))
  | ((with_reducible refine' x_set_Files_state ?T ?h ?_); (case T => assumption); (case h => walk_at "hp"))
  | ((with_reducible refine' i_set_Files_state ?T ?h ?_); (case T => assumption); (case h => walk_at "hp"))
  | ((with_reducible refine' x_set_Files_kept ?T ?h ?_); (case T => assumption); (case h => walk_at "hp"))
  | ((with_reducible refine' i_set_Files_kept ?T ?h ?_); (case T => assumption); (case h => walk_at "hp"))
  | ((with_reducible refine' x_set_Files_slot ?T ?h ?_); (case T => assumption); (case h => walk_at "hp"))
  | ((with_reducible refine' i_set_Files_slot ?T ?h ?_); (case T => assumption); (case h => walk_at "hp"))
  | ((with_reducible refine' x_set_Files_turn ?T ?h ?_); (case T => assumption); (case h => walk_at "hp"))
  | ((with_reducible refine' i_set_Files_turn ?T ?h ?_); (case T => assumption); (case h => walk_at "hp"))
  | ((with_reducible refine' x_set_Files_used ?T ?h ?_); (case T => assumption); (case h => walk_at "hp"))
  | ((with_reducible refine' i_set_Files_used ?T ?h ?_); (case T => assumption); (case h => walk_at "hp"))
  | ((with_reducible refine' x_set_Files_is_new ?T ?h ?_); (case T => assumption); (case h => walk_at "hp"))
  | ((with_reducible refine' i_set_Files_is_new ?T ?h ?_); (case T => assumption); (case h => walk_at "hp")))
local macro_rules | `(tactic| walk_at "go1") => `(tactic| first
  | ((with_reducible refine w_var (v := ?vv) ?e ?_); (case e => rfl))
  | ((with_reducible walk_at "get"); (case T => assumption); (case h => walk_at "hp"))
  | (with_reducible refine x_bl ?_)
  | (with_reducible refine x_isN ?_) | (with_reducible refine x_notN ?_) | (with_reducible refine x_eqI ?_) | (with_reducible refine x_neI ?_) | (with_reducible refine x_eqS ?_) | (with_reducible refine x_neS ?_)
  | (with_reducible refine x_addI ?_) | (with_reducible refine x_subI ?_) | (with_reducible refine x_ltI ?_) | (with_reducible refine x_leI ?_) | (with_reducible refine x_gtI ?_) | (with_reducible refine x_geI ?_)
  | (with_reducible refine x_bv ?_) | (with_reducible refine x_part ?_) | (with_reducible refine x_neg ?_) | (with_reducible refine x_inS ?_)
  | (walk_at "set")
  | ((with_reducible refine' x_bmL ?h ?_); (case h => walk_at "hp")) | ((with_reducible refine' x_bmL0 ?h ?_); (case h => walk_at "hp")))
local macro_rules | `(tactic| walk_at "go") => `(tactic| ((try with_reducible (conv => whnf)); repeat ((walk_at "go1"); (try with_reducible (conv => whnf)))))
/-! ### sorted once, sorted for good -/
def sle (x y : Str) : Bool := !decide (y.cps.toList < x.cps.toList)
theorem sle_iff {x y : Str} : sle x y = true ↔ x.cps.toList ≤ y.cps.toList := by
  unfold sle
  rw [Bool.not_eq_true', decide_eq_false_iff_not]
  exact Iff.rfl
theorem sle_trans (x y z : Str) (h1 : sle x y = true) (h2 : sle y z = true) : sle x z = true := sle_iff.mpr (List.le_trans (sle_iff.mp h1) (sle_iff.mp h2))
theorem sle_total (x y : Str) : (sle x y || sle y x) = true := by
  rw [Bool.or_eq_true]
  rcases List.le_total x.cps.toList y.cps.toList with h | h
  · exact .inl (sle_iff.mpr h)
  · exact .inr (sle_iff.mpr h)
theorem sle_anti {x y : Str} (h1 : sle x y = true) (h2 : sle y x = true) : x = y := by
  have e := List.le_antisymm (sle_iff.mp h1) (sle_iff.mp h2)
  obtain ⟨⟨a⟩⟩ := x
  obtain ⟨⟨b⟩⟩ := y
  simp only at e
  rw [e]
def sortS (ks : List Str) : List Str := ks.mergeSort sle
theorem rising_pw : ∀ (l : List Str) (p : Str), risingS p l = true → (p :: l).Pairwise fun a b => sle a b = true
  | [], p, _ => List.pairwise_singleton _ _
  | x :: r, p, h => by
    have h1 : (!ltCps x.cps.toList p.cps.toList && risingS x r) = true := h
    obtain ⟨h2, h3⟩ := Bool.and_eq_true_iff.mp h1
    have ih := rising_pw r x h3
    have hp : sle p x = true := by
      unfold sle
      rw [← ltCps_eq]
      exact h2
    refine List.Pairwise.cons (fun y hy => ?_) ih
    rcases List.mem_cons.mp hy with e | e
    · rw [e]; exact hp
    · exact sle_trans _ _ _ hp ((List.pairwise_cons.mp ih).1 y e)
theorem sorted_is {ys ks : List Str} (h : ys.Perm ks) (hs : sortedS ys = true) : ys = sortS ks := by
  have p1 : ys.Pairwise fun a b => sle a b = true := by
    cases ys with
    | nil => exact .nil
    | cons x r => exact rising_pw r x hs
  exact List.Perm.eq_of_pairwise (le := fun a b => sle a b = true) (fun a b _ _ h1 h2 => sle_anti h1 h2) p1 (List.pairwise_mergeSort sle_trans sle_total ks) (h.trans (List.mergeSort_perm ks sle).symm)
theorem sortS_perm (ks : List Str) : (sortS ks).Perm ks := List.mergeSort_perm ks sle
def zle (x y : Int) : Bool := decide (x ≤ y)
def sortZ (ks : List Int) : List Int := ks.mergeSort zle
theorem sortZ_perm (ks : List Int) : (sortZ ks).Perm ks := List.mergeSort_perm ks zle
theorem sortedZ_is {ys ks : List Int} (h : ys.Perm ks) (hs : ys.Pairwise (· ≤ ·)) : ys = sortZ ks :=
  List.Perm.eq_of_pairwise (le := fun a b => zle a b = true) (fun a b _ _ h1 h2 => Int.le_antisymm (of_decide_eq_true h1) (of_decide_eq_true h2)) (hs.imp fun h => decide_eq_true h)
    (List.pairwise_mergeSort (le := zle) (fun a b c h1 h2 => decide_eq_true (Int.le_trans (of_decide_eq_true h1) (of_decide_eq_true h2))) (fun a b => by
      rw [Bool.or_eq_true]
      rcases Int.le_total a b with h | h
      · exact .inl (decide_eq_true h)
      · exact .inr (decide_eq_true h)) ks) (h.trans (List.mergeSort_perm ks zle).symm)
/-! ### text_bytes -/
def tbytes (z : Str) : List Int := [(z.length : Int)] ++ z.cps.toList.map fun c : Nat => (c : Int)
/-- a new list of ints -/
def NewL (H : Hp) (Q : VK) (xs : List Int) : Prop := ∀ p H', H p = none → H' p = some (.lst (xs.map V.int)) → Same H H' → Q (.ref p) H'
def sp_text_bytes (K : PySem.W.Frag) : Sp := fun vs H Q E => ∃ t : Str, vs = [.str t] ∧ t.length ≤ 1000 ∧ NewL H Q (tbytes t)
def t_text_bytes (K : PySem.W.Frag) (W : WX) : TS := uRet (uOp rCat (uLst (uCons (uCB cLenS (uCons (tVar 0) uNil)) uNil)) (uLc (uStrI (tVar 0)) (vName 1) tYes (uCB cOrd (uCons (tVar 1) uNil)) [1]))
theorem x_ord {H : Hp} {Q : VK} {c : Nat} (q : Q (.int (c : Int)) H) : cOrd [.str ⟨#[c]⟩] H Q := ⟨_, rfl, rfl, q⟩
theorem pure_text_bytes {K : PySem.W.Frag} {vs : List V} {H : Hp} {Q : VK} {E : XK} (h : sp_text_bytes K vs H Q E) : t_text_bytes K (WE1 E) (fin Q) (start ["text", "sign"] vs) H := by
  obtain ⟨t, rfl, hl, q⟩ := h
  have hz : t.length ≤ sizeLine := Nat.le_trans hl (by rw [sizeLine_eq]; decide)
  have ls : t.cps.toList.length = t.length := Array.length_toList
  show t_text_bytes K _ (fin Q) [some (.str t), none] H
  unfold t_text_bytes
  walk_at "go"
  refine x_lenS hz ?_
  walk_at "go"
  refine x_lst fun l H1 nl hl1 s1 => ?_
  walk_at "go"
  refine x_istr ?_
  refine x_lcW walk_str (fun i acc _ => acc = (t.cps.toList.take i).map fun c : Nat => V.int (c : Int)) (fun _ _ _ _ _ h => h) (fun _ _ => trivial) (by show t.length ≤ _; omega) rfl (fun i x D H' H'' acc P P0 hi nD hD s2 hP hY k1 k2 => ?_) (fun D H' acc nD hD lA s2 hP => ?_)
  · obtain ⟨rfl, c, hc, rfl⟩ := hY
    refine ⟨rfl, ?_⟩
    refine x_yes ?_
    refine x_ifT rfl ?_
    walk_at "go"
    refine x_ord ?_
    refine k1 _ _ (Same.refl _) ?_
    subst hP
    have hc2 : t.cps.toList[i]? = some c := by rw [← hc]; simp
    rw [take_snoc hc2, List.map_append]
    rfl
  · have e3 : t.cps.toList.take t.cps.size = t.cps.toList := List.take_of_length_le (by rw [ls]; exact Nat.le_refl _)
    rw [e3] at hP
    subst hP
    refine x_cat (s2 _ _ hl1) hD ?_ fun p H3 np hp s3 => ?_
    · rw [sizeLine_eq, List.length_map, ls]
      show 1 + t.length ≤ _
      omega
    refine q p H3 (s1.free (s2.free np)) ?_ ((s1.trans s2).trans s3)
    rw [hp]
    unfold tbytes
    rw [List.map_append, List.map_map]
    rfl
/-! ### thing_bytes -/
def entB (es : List (Str × Int)) (z : Str) : List Int := [(lk es z).getD 0] ++ tbytes z
def thingB (n : Int) (t : Th) : List Int :=
  if t.dir = true then [n, 1, (t.ents.length : Int)] ++ (sortS (t.ents.map (·.1))).flatMap (entB t.ents)
  else [n, 0, (t.held.length : Int) / 256, (t.held.length : Int) % 256] ++ t.held
/-- a thing within bounds -/
structure Wt (t : Th) : Prop where
  kd : (t.ents.map (·.1)).Nodup
  el : t.ents.length ≤ 50
  hl : t.held.length ≤ 1000
  nl : ∀ e ∈ t.ents, e.1.length ≤ 60
theorem tbytes_len (z : Str) : (tbytes z).length = z.length + 1 := by
  unfold tbytes
  rw [List.length_append, List.length_map]
  show 1 + z.cps.toList.length = z.cps.size + 1
  rw [Array.length_toList]
  omega
theorem entB_len {es : List (Str × Int)} {z : Str} (h : z.length ≤ 60) : (entB es z).length ≤ 62 := by
  unfold entB
  rw [List.length_append, tbytes_len]
  show 1 + _ ≤ _
  omega
theorem flat_len {α : Type} {f : α → List Int} {b : Nat} : ∀ {l : List α}, (∀ x ∈ l, (f x).length ≤ b) → (l.flatMap f).length ≤ l.length * b
  | [], _ => by simp
  | x :: r, h => by
    rw [List.flatMap_cons, List.length_append, List.length_cons, Nat.succ_mul]
    have h1 := h x List.mem_cons_self
    have h2 := flat_len (l := r) fun y hy => h y (List.mem_cons_of_mem _ hy)
    omega
theorem thingB_len {n : Int} {t : Th} (w : Wt t) : (thingB n t).length ≤ 4000 := by
  unfold thingB
  split
  · rw [List.length_append]
    have h1 : (sortS (t.ents.map (·.1))).length = t.ents.length := by rw [(sortS_perm _).length_eq, List.length_map]
    have h2 := flat_len (f := entB t.ents) (b := 62) (l := sortS (t.ents.map (·.1))) fun z hz => by
      obtain ⟨e, he, rfl⟩ := List.mem_map.mp ((sortS_perm _).mem_iff.mp hz)
      exact entB_len (w.nl e he)
    have := w.el
    show 3 + _ ≤ _
    omega
  · rw [List.length_append]
    have := w.hl
    show 4 + _ ≤ _
    omega
def sp_thing_bytes (K : PySem.W.Frag) : Sp := fun vs H Q E => ∃ (n : Int) (v : V) (t : Th), vs = [.int n, v] ∧ ThAt K H v t ∧ Wt t ∧ NewL H Q (thingB n t)
def t_thing_bytes (K : PySem.W.Frag) (W : WX) : TS := uSeq (uIfS (uTest (uOp rEq (uFld K (tVar 1) "kind") (uC (.str "dir")))) (uSeq (uAsg (uLst (uCons (tVar 0) (uCons (uC (.int 1)) (uCons (uCB cLenD (uCons (uFld K (tVar 1) "entries") uNil)) uNil)))) (vName 2))
    (uSeq (uFor (jList K (uCB cSortDS (uCons (uFld K (tVar 1) "entries") uNil))) (vName 3) (uAsg (uOp rCat (uOp rCat (tVar 2) (uLst (uCons (uDGet (uFld K (tVar 1) "entries") (tVar 3)) uNil))) (uCallW (sp_text_bytes K) W (uCons (tVar 3) uNil))) (vName 2)))
    (uRet (tVar 2)))) uNext)
    (uRet (uOp rCat (uLst (uCons (tVar 0) (uCons (uC (.int 0)) (uCons (uOp rDivI (uCB (cLenQ K) (uCons (uFld K (tVar 1) "held") uNil)) (uC (.int 256))) (uCons (uOp rModI (uCB (cLenQ K) (uCons (uFld K (tVar 1) "held") uNil)) (uC (.int 256))) uNil))))) (uFld K (tVar 1) "held")))
theorem lk_some {κ β : Type} [DecidableEq κ] {l : List (κ × β)} {k : κ} (h : k ∈ l.map (·.1)) : ∃ v, lk l k = some v := by
  cases e : lk l k with
  | none => exact absurd h (lk_none.mp e)
  | some v => exact ⟨v, rfl⟩
theorem flat_snoc {α : Type} {f : α → List Int} {l : List α} {i : Nat} {x : α} (h : l[i]? = some x) : (l.take (i + 1)).flatMap f = (l.take i).flatMap f ++ f x := by
  rw [take_snoc h, List.flatMap_append]
  simp
theorem pure_thing_bytes {K : PySem.W.Frag} (T : PxThing K) {vs : List V} {H : Hp} {Q : VK} {E : XK} (h : sp_thing_bytes K vs H Q E) : t_thing_bytes K (WE1 E) (fin Q) (start ["number", "thing", "found", "name"] vs) H := by
  obtain ⟨n, v, t, rfl, ⟨el, p, dx, hl, rfl, h1, h2, h3⟩, w, q⟩ := h
  show t_thing_bytes K _ (fin Q) [some (.int n), some (.ref p), none, none] H
  unfold t_thing_bytes
  walk_at "go"
  rw [kind_dir]
  cases hd : t.dir with
  | true =>
    have eb : thingB n t = [n, 1, (t.ents.length : Int)] ++ (sortS (t.ents.map (·.1))).flatMap (entB t.ents) := by unfold thingB; rw [if_pos hd]
    refine x_ifT rfl ?_
    walk_at "go"
    refine x_lenD h3 ?_
    rw [ek_len]
    walk_at "go"
    refine x_lst fun a H1 na ha s1 => ?_
    walk_at "go"
    refine x_sortDS (.inl (s1 _ _ h3)) (ek_keys t.ents) (by rw [List.length_map]; have := w.el; omega) fun ys b H2 pm so nb hb s2 => ?_
    rw [sorted_is pm so] at hb
    clear pm so
    have hmem : ∀ z ∈ sortS (t.ents.map (·.1)), z ∈ t.ents.map (·.1) := fun z hz => (sortS_perm _).mem_iff.mp hz
    have hlen : (sortS (t.ents.map (·.1))).length = t.ents.length := by rw [(sortS_perm _).length_eq, List.length_map]
    generalize sortS (t.ents.map (·.1)) = zs at eb hb hmem hlen
    refine x_ilist (SqL.of hb) ?_
    have s12 := s1.trans s2
    refine x_forL (xs := zs.map V.str) (fun i σ H' => (∃ l o, σ = [some (.int n), some (.ref p), some (.ref l), o] ∧ H' l = some (.lst (([n, 1, (t.ents.length : Int)] ++ (zs.take i).flatMap (entB t.ents)).map V.int)) ∧ H l = none) ∧ Same H2 H') ⟨⟨a, _, rfl, s2 _ _ ha, na⟩, Same.refl _⟩ (fun i σ H' _ h => SqL.of (h.2 _ _ hb)) (fun i x σ H' hx h => ?_) (fun σ H' h => ?_)
    · obtain ⟨⟨l, o, rfl, hl', nl⟩, s⟩ := h
      rw [List.getElem?_map] at hx
      obtain ⟨z, hz, rfl⟩ := Option.map_eq_some_iff.mp hx
      have hzm := hmem z (List.mem_of_getElem? hz)
      obtain ⟨j, hj⟩ := lk_some hzm
      have hz60 : z.length ≤ 60 := by
        obtain ⟨e, he, rfl⟩ := List.mem_map.mp hzm
        exact w.nl e he
      have sA := s12.trans s
      have bl : (([n, 1, (t.ents.length : Int)] ++ (zs.take i).flatMap (entB t.ents)).map V.int).length ≤ 10000 := by
        rw [List.length_map, List.length_append]
        have h5 := flat_len (f := entB t.ents) (b := 62) (l := zs.take i) fun y hy => by
          obtain ⟨e, he, rfl⟩ := List.mem_map.mp (hmem y (List.mem_of_mem_take hy))
          exact entB_len (w.nl e he)
        have h6 : (zs.take i).length ≤ 50 := by rw [List.length_take]; have := w.el; omega
        show 3 + _ ≤ _
        omega
      walk_at "go"
      have g1 := sA _ _ h1
      walk_at "go"
      refine x_dget (.inl (sA _ _ h3)) (k := Sum.inr z) rfl (by rw [ek_get, hj]; rfl) ?_
      walk_at "go"
      refine x_lst fun l2 H3 n3 h3' s3 => ?_
      walk_at "go"
      refine x_cat (s3 _ _ hl') h3' (by rw [sizeLine_eq]; show _ + 1 ≤ _; omega) fun l4 H4 n4 h4 s4 => ?_
      walk_at "go"
      refine ⟨z, rfl, by omega, fun l5 H5 n5 h5 s5 => ?_⟩
      walk_at "go"
      have bt : ((tbytes z).map V.int).length ≤ 61 := by rw [List.length_map, tbytes_len]; omega
      refine x_cat (s5 _ _ h4) h5 (by rw [sizeLine_eq, List.length_append]; show _ + 1 + _ ≤ _; omega) fun l6 H6 n6 h6 s6 => ?_
      walk_at "go"
      have sB := (((s3.trans s4).trans s5).trans s6)
      refine ⟨⟨l6, _, rfl, ?_, (sA.trans ((s3.trans s4).trans s5)).free n6⟩, s.trans sB⟩
      rw [h6, flat_snoc hz]
      have e9 : entB t.ents z = [j] ++ tbytes z := by unfold entB; rw [hj]; rfl
      rw [e9]
      simp only [List.map_append, List.append_assoc]
      rfl
    · obtain ⟨⟨l, o, rfl, hl', nl⟩, s⟩ := h
      walk_at "go"
      rw [List.length_map, List.take_length, ← eb] at hl'
      exact q l H' nl hl' (s12.trans s)
  | false =>
    have eb : thingB n t = [n, 0, (t.held.length : Int) / 256, (t.held.length : Int) % 256] ++ t.held := by unfold thingB; rw [if_neg (by rw [hd]; decide)]
    refine x_ifF rfl ?_
    walk_at "go"
    refine x_lenL h2 ?_
    rw [List.length_map]
    walk_at "go"
    refine x_divI ⟨by decide, by decide⟩ ?_
    walk_at "go"
    refine x_lenL h2 ?_
    rw [List.length_map]
    walk_at "go"
    refine x_modI (by decide) ?_
    walk_at "go"
    refine x_lst fun a H1 na ha s1 => ?_
    have g1 := s1 _ _ h1
    walk_at "go"
    refine x_cat ha (s1 _ _ h2) (by rw [sizeLine_eq, List.length_map]; have := w.hl; show 4 + _ ≤ _; omega) fun l H2 nl hl2 s2 => ?_
    refine q l H2 (s1.free nl) ?_ (s1.trans s2)
    rw [hl2, eb, List.map_append]
    rfl
end SP

set_option Elab.async false
set_option linter.all false
set_option maxRecDepth 100000
set_option maxHeartbeats 4000000
/-! Images. -/
namespace SP
open PySem PySem.Spec PyProof.Rows L2
local macro_rules | `(tactic| walk_at "hp") => `(tactic| first
  | assumption
  | exact upd_same
  | (refine' sameAt ?sA ?hA; (case sA => assumption); (case hA => walk_at "hp"))
  | (refine' Eq.trans (upd_ne ?nA) ?hA; (case nA => walk_at "ne"); (case hA => walk_at "hp")))
local macro_rules | `(tactic| walk_at "ne") => `(tactic| first
  | assumption
  | (refine' Ne.symm ?hA; assumption)
  | (refine' ne_of_none (H := _) ?hA (by assumption); walk_at "hp")
  | (refine' Ne.symm (ne_of_none (H := _) ?hA (by assumption)); walk_at "hp")
  | (refine' ne_of ?hA ?hB ?hC; (case hA => assumption); (case hB => walk_at "hp"); (case hC => (intro z; cases z))))
local macro_rules | `(tactic| walk_at "sm") => `(tactic| first
  | exact Same.refl _
  | assumption
  | (refine' sameTr ?sA ?sB; (case sA => assumption); (case sB => walk_at "sm")))
local macro_rules | `(tactic| walk_at "dm") => `(tactic| first
  | exact dmRefl
  | assumption
  | (refine' dmUpd ?dA; (case dA => walk_at "dm"))
  | (refine' dmSame ?sA ?dA; (case sA => assumption); (case dA => walk_at "dm")))
local macro_rules | `(tactic| walk_at "fr") => `(tactic| first
  | assumption
  | (refine' dmAt ?dA ?hA; (case hA => assumption); (case dA => walk_at "dm")))
local macro_rules | `(tactic| walk_at "ab") => `(tactic| (exfalso; refine absurd ?hA (noneSome ?hB); (case hB => walk_at "hp"); (case hA => assumption)))
local macro_rules | `(tactic| walk_at "kp") => `(tactic| first
  | exact Keep.refl
  | assumption
  | (refine' Keep.trans ?kA (keepUpd ?kB ?kC ?kD); (case kB => simp); (case kC => walk_at "hp"); (case kD => (intro xs z; cases z)); (case kA => walk_at "kp"))
  | (refine' keepTr ?kB ?kA; (case kB => assumption); (case kA => walk_at "kp"))
  | (refine' keepSm ?kB ?kA; (case kB => assumption); (case kA => walk_at "kp")))
local macro_rules | `(tactic| walk_at "get") => `(tactic| first
  | (refine' x_get_Files_state ?T ?h ?_) | (refine' x_get_Thing_kind ?T ?h ?_) | (refine' x_get_Thing_entries ?T ?h ?_) | (refine' x_get_Thing_held ?T ?h ?_)
  | (refine' x_get_Files_disk ?T ?h ?_) | (refine' x_get_Files_kept ?T ?h ?_) | (refine' x_get_Files_used ?T ?h ?_)
  | (refine' x_get_Disk_blocks ?T ?h ?_) | (refine' x_get_Disk_log ?T ?h ?_)
  | (refine' x_get_Reader_row ?T ?h ?_) | (refine' x_get_Reader_at ?T ?h ?_) | (refine' x_get_Reader_good ?T ?h ?_)
  | (refine' x_get_Files_slot ?T ?h ?_) | (refine' x_get_Files_turn ?T ?h ?_) | (refine' x_get_Files_is_new ?T ?h ?_))
local macro_rules | `(tactic| walk_at "set") => `(tactic| first
  | ((with_reducible refine' x_set_Disk_blocks ?T ?h ?_); (case T => assumption); (case h => walk_at "hp"))
  | ((with_reducible refine' i_set_Disk_blocks ?T ?h ?_); (case T => assumption); (case h => walk_at "hp"))
  | ((with_reducible refine' x_set_Disk_log ?T ?h ?_); (case T => assumption); (case h => walk_at "hp"))
  | ((with_reducible refine' i_set_Disk_log ?T ?h ?_); (case T => assumption); (case h => walk_at "hp"))
  | ((with_reducible refine' x_set_Thing_kind ?T ?h ?_); (case T => assumption); (case h => walk_at "hp"))
  | ((with_reducible refine' i_set_Thing_kind ?T ?h ?_); (case T => assumption); (case h => walk_at "hp"))
  | ((with_reducible refine' x_set_Thing_held ?T ?h ?_); (case T => assumption); (case h => walk_at "hp"))
  | ((with_reducible refine' i_set_Thing_held ?T ?h ?_); (case T => assumption); (case h => walk_at "hp"))
  | ((with_reducible refine' x_set_Thing_entries ?T ?h ?_); (case T => assumption); (case h => walk_at "hp"))
  | ((with_reducible refine' i_set_Thing_entries ?T ?h ?_); (case T => assumption); (case h => walk_at "hp"))
  | ((with_reducible refine' x_set_Reader_row ?T ?h ?_); (case T => assumption); (case h => walk_at "hp"))
  | ((with_reducible refine' i_set_Reader_row ?T ?h ?_); (case T => assumption); (case h => walk_at "hp"))
  | ((with_reducible refine' x_set_Reader_at ?T ?h ?_); (case T => assumption); (case h => walk_at "hp"))
  | ((with_reducible refine' i_set_Reader_at ?T ?h ?_); (case T => assumption); (case h => walk_at "hp"))
  | ((with_reducible refine' x_set_Reader_good ?T ?h ?_); (case T => assumption); (case h => walk_at "hp"))
  | ((with_reducible refine' i_set_Reader_good ?T ?h ?_); (case T => assumption); (case h => walk_at "hp"))
  | ((with_reducible refine' x_set_Files_disk ?T ?h ?_); (case T => assumption); (case h => walk_at "hp"))
  | ((with_reducible refine' i_set_Files_disk ?T ?h ?_); (case T => assumption); (case h => walk_at "hp"))
  | ((with_reducible refine' x_set_Files_state ?T ?h ?_); (case T => assumption); (case h => walk_at "hp"))
  | ((with_reducible refine' i_set_Files_state ?T ?h ?_); (case T => assumption); (case h => walk_at "hp"))
  | ((with_reducible refine' x_set_Files_kept ?T ?h ?_); (case T => assumption); (case h => walk_at "hp"))
  | ((with_reducible refine' i_set_Files_kept ?T ?h ?_); (case T => assumption); (case h => walk_at "hp"))
  | ((with_reducible refine' x_set_Files_slot ?T ?h ?_); (case T => assumption); (case h => walk_at "hp"))
  | ((with_reducible refine' i_set_Files_slot ?T ?h ?_); (case T => assumption); (case h => walk_at "hp"))
  | ((with_reducible refine' x_set_Files_turn ?T ?h ?_); (case T => assumption); (case h => walk_at "hp"))
  | ((with_reducible refine' i_set_Files_turn ?T ?h ?_); (case T => assumption); (case h => walk_at "hp"))
  | ((with_reducible refine' x_set_Files_used ?T ?h ?_); (case T => assumption); (case h => walk_at "hp"))
  | ((with_reducible refine' i_set_Files_used ?T ?h ?_); (case T => assumption); (case h => walk_at "hp"))
  | ((with_reducible refine' x_set_Files_is_new ?T ?h ?_); (case T => assumption); (case h => walk_at "hp"))
  | ((with_reducible refine' i_set_Files_is_new ?T ?h ?_); (case T => assumption); (case h => walk_at "hp")))
local macro_rules | `(tactic| walk_at "go1") => `(tactic| first
  | ((with_reducible refine w_var (v := ?vv) ?e ?_); (case e => rfl))
  | ((with_reducible walk_at "get"); (case T => assumption); (case h => walk_at "hp"))
  | (with_reducible refine x_bl ?_)
  | (with_reducible refine x_isN ?_) | (with_reducible refine x_notN ?_) | (with_reducible refine x_eqI ?_) | (with_reducible refine x_neI ?_) | (with_reducible refine x_eqS ?_) | (with_reducible refine x_neS ?_)
  | (with_reducible refine x_addI ?_) | (with_reducible refine x_subI ?_) | (with_reducible refine x_ltI ?_) | (with_reducible refine x_leI ?_) | (with_reducible refine x_gtI ?_) | (with_reducible refine x_geI ?_)
  | (with_reducible refine x_bv ?_) | (with_reducible refine x_part ?_) | (with_reducible refine x_neg ?_) | (with_reducible refine x_inS ?_)
  | (walk_at "set")
  | ((with_reducible refine' x_bmL ?h ?_); (case h => walk_at "hp")) | ((with_reducible refine' x_bmL0 ?h ?_); (case h => walk_at "hp")))
local macro_rules | `(tactic| walk_at "go") => `(tactic| ((try with_reducible (conv => whnf)); repeat ((walk_at "go1"); (try with_reducible (conv => whnf)))))
/-- a state within bounds -/
structure Ws (S : St) : Prop where
  kd : (S.map (·.1)).Nodup
  sl : S.length ≤ 50
  wt : ∀ x ∈ S, Wt x.2
def thD : Th := ⟨false, [], []⟩
def numB (S : St) (n : Int) : List Int := thingB n ((lk S n).getD thD)
def stateB (S : St) : List Int := [(S.length : Int)] ++ (sortZ (S.map (·.1))).flatMap (numB S)
theorem numB_len {S : St} {n : Int} (w : Ws S) (h : n ∈ S.map (·.1)) : (numB S n).length ≤ 4000 := by
  obtain ⟨t, e⟩ := lk_some h
  unfold numB
  rw [e]
  exact thingB_len (w.wt _ (lk_mem e))
theorem stateB_len {S : St} (w : Ws S) : (stateB S).length ≤ 200001 := by
  unfold stateB
  rw [List.length_append]
  have h1 : (sortZ (S.map (·.1))).length = S.length := by rw [(sortZ_perm _).length_eq, List.length_map]
  have h2 := flat_len (f := numB S) (b := 4000) (l := sortZ (S.map (·.1))) fun z hz => numB_len w ((sortZ_perm _).mem_iff.mp hz)
  have := w.sl
  show 1 + _ ≤ _
  omega
def sp_state_bytes (K : PySem.W.Frag) : Sp := fun vs H Q E => ∃ (a : Addr) (S : St), vs = [.ref a] ∧ StateAt K H a S ∧ Ws S ∧ NewL H Q (stateB S)
def t_state_bytes (K : PySem.W.Frag) (W : WX) : TS := uSeq (uAsg (uLst (uCons (uCB cLenD (uCons (tVar 0) uNil)) uNil)) (vName 1))
    (uSeq (uFor (jList K (uCB cSortDI (uCons (tVar 0) uNil))) (vName 2) (uAsg (uOp rCat (tVar 1) (uCallW (sp_thing_bytes K) W (uCons (tVar 2) (uCons (uDGet (tVar 0) (tVar 2)) uNil)))) (vName 1)))
    (uRet (tVar 1)))
theorem pure_state_bytes {K : PySem.W.Frag} {vs : List V} {H : Hp} {Q : VK} {E : XK} (h : sp_state_bytes K vs H Q E) : t_state_bytes K (WE1 E) (fin Q) (start ["state", "found", "number"] vs) H := by
  obtain ⟨a, S, rfl, hS, w, q⟩ := h
  obtain ⟨kvs, hk, pk⟩ := id hS
  have lkv : kvs.length = S.length := Paired.len pk
  show t_state_bytes K _ (fin Q) [some (.ref a), none, none] H
  unfold t_state_bytes
  walk_at "go"
  refine x_lenD hk ?_
  rw [lkv]
  walk_at "go"
  refine x_lst fun l0 H1 na ha s1 => ?_
  walk_at "go"
  refine x_sortDI (.inl (s1 _ _ hk)) (kv_keys pk) (by rw [List.length_map]; have := w.sl; omega) fun ys b H2 pm so nb hb s2 => ?_
  rw [sortedZ_is pm so] at hb
  clear pm so
  have eb : stateB S = [(S.length : Int)] ++ (sortZ (S.map (·.1))).flatMap (numB S) := rfl
  have hmem : ∀ z ∈ sortZ (S.map (·.1)), z ∈ S.map (·.1) := fun z hz => (sortZ_perm _).mem_iff.mp hz
  have hlen : (sortZ (S.map (·.1))).length = S.length := by rw [(sortZ_perm _).length_eq, List.length_map]
  generalize sortZ (S.map (·.1)) = zs at eb hb hmem hlen
  refine x_ilist (SqL.of hb) ?_
  have s12 := s1.trans s2
  refine x_forL (xs := zs.map V.int) (fun i σ H' => (∃ l o, σ = [some (.ref a), some (.ref l), o] ∧ H' l = some (.lst (([(S.length : Int)] ++ (zs.take i).flatMap (numB S)).map V.int)) ∧ H l = none) ∧ Same H2 H') ⟨⟨l0, _, rfl, s2 _ _ ha, na⟩, Same.refl _⟩ (fun i σ H' _ h => SqL.of (h.2 _ _ hb)) (fun i x σ H' hx h => ?_) (fun σ H' h => ?_)
  · obtain ⟨⟨l, o, rfl, hl', nl⟩, s⟩ := h
    rw [List.getElem?_map] at hx
    obtain ⟨z, hz, rfl⟩ := Option.map_eq_some_iff.mp hx
    have hzm := hmem z (List.mem_of_getElem? hz)
    obtain ⟨t, et⟩ := lk_some hzm
    have sA := s12.trans s
    obtain ⟨kvs', v, ha', hv, th⟩ := state_get (hS.same sA) et
    have wt := w.wt _ (lk_mem et)
    have bl : (([(S.length : Int)] ++ (zs.take i).flatMap (numB S)).map V.int).length ≤ 200001 := by
      rw [List.length_map, List.length_append]
      have h5 := flat_len (f := numB S) (b := 4000) (l := zs.take i) fun y hy => numB_len w (hmem y (List.mem_of_mem_take hy))
      have h6 : (zs.take i).length ≤ 50 := by rw [List.length_take]; have := w.sl; omega
      show 1 + _ ≤ _
      omega
    walk_at "go"
    refine x_dget (.inl ha') (k := Sum.inl z) rfl hv ?_
    walk_at "go"
    refine ⟨z, v, t, rfl, th, wt, fun l5 H5 n5 h5 s5 => ?_⟩
    walk_at "go"
    have bt : ((thingB z t).map V.int).length ≤ 4000 := by rw [List.length_map]; exact thingB_len wt
    refine x_cat (s5 _ _ hl') h5 (by rw [sizeLine_eq]; omega) fun l6 H6 n6 h6 s6 => ?_
    walk_at "go"
    refine ⟨⟨l6, _, rfl, ?_, (sA.trans s5).free n6⟩, s.trans (s5.trans s6)⟩
    rw [h6, flat_snoc hz]
    have e9 : numB S z = thingB z t := by unfold numB; rw [et]; rfl
    rw [e9]
    simp only [List.map_append, List.append_assoc]
  · obtain ⟨⟨l, o, rfl, hl', nl⟩, s⟩ := h
    walk_at "go"
    rw [List.length_map, List.take_length, ← eb] at hl'
    exact q l H' nl hl' (s12.trans s)
/-! ### image -/
abbrev Sn := List (Str × St)
def SnapsAt (K : PySem.W.Frag) (H : Hp) (a : Addr) (L : Sn) : Prop := ∃ kvs, H a = some (.dK kvs) ∧ Paired (KV Sum.inr fun v S => ∃ s, v = .ref s ∧ StateAt K H s S) kvs L
theorem SnapsAt.same {K : PySem.W.Frag} {H H' : Hp} {a : Addr} {L : Sn} (s : Same H H') (h : SnapsAt K H a L) : SnapsAt K H' a L := by
  obtain ⟨kvs, e, p⟩ := h
  refine ⟨kvs, s _ _ e, kv_mono (fun _ _ z => ?_) p⟩
  obtain ⟨b, e1, e2⟩ := z
  exact ⟨b, e1, e2.same s⟩
theorem snaps_get {K : PySem.W.Frag} {H : Hp} {a : Addr} {L : Sn} {z : Str} {S : St} (h : SnapsAt K H a L) (e : lk L z = some S) : ∃ kvs s, H a = some (.dK kvs) ∧ valV kvs (Sum.inr z) = some (.ref s) ∧ StateAt K H s S := by
  obtain ⟨kvs, ha, p⟩ := h
  obtain ⟨v, e1, s, rfl, e2⟩ := (kv_get (k := Sum.inr) (F := fun v S => ∃ s, v = .ref s ∧ StateAt K H s S) (fun _ _ => inr_inj) (j := z) p).1 S e
  exact ⟨kvs, s, ha, e1, e2⟩
structure Wn (L : Sn) : Prop where
  kd : (L.map (·.1)).Nodup
  ln : L.length ≤ 10
  nl : ∀ x ∈ L, x.1.length ≤ 60
  ws : ∀ x ∈ L, Ws x.2
def snapB (L : Sn) (z : Str) : List Int := tbytes z ++ stateB ((lk L z).getD [])
def imgB (S : St) (L : Sn) : List Int := ([(L.length : Int)] ++ stateB S) ++ (sortS (L.map (·.1))).flatMap (snapB L)
theorem snapB_len {L : Sn} {z : Str} (w : Wn L) (h : z ∈ L.map (·.1)) : (snapB L z).length ≤ 200100 := by
  obtain ⟨S, e⟩ := lk_some h
  have hm := lk_mem e
  unfold snapB
  rw [List.length_append, tbytes_len, e]
  have := w.nl _ hm
  have := stateB_len (w.ws _ hm)
  show _ + 1 + (stateB S).length ≤ _
  simp only at *
  omega
theorem imgB_len {S : St} {L : Sn} (w : Ws S) (wn : Wn L) : (imgB S L).length ≤ 3000000 := by
  unfold imgB
  rw [List.length_append, List.length_append]
  have h1 : (sortS (L.map (·.1))).length = L.length := by rw [(sortS_perm _).length_eq, List.length_map]
  have h2 := flat_len (f := snapB L) (b := 200100) (l := sortS (L.map (·.1))) fun z hz => snapB_len wn ((sortS_perm _).mem_iff.mp hz)
  have := wn.ln
  have := stateB_len w
  show 1 + _ + _ ≤ _
  omega
def sp_image (K : PySem.W.Frag) : Sp := fun vs H Q E => ∃ (a b : Addr) (S : St) (L : Sn), vs = [.ref a, .ref b] ∧ StateAt K H a S ∧ SnapsAt K H b L ∧ Ws S ∧ Wn L ∧ NewL H Q (imgB S L)
def t_image (K : PySem.W.Frag) (W : WX) : TS := uSeq (uAsg (uOp rCat (uLst (uCons (uCB cLenD (uCons (tVar 1) uNil)) uNil)) (uCallW (sp_state_bytes K) W (uCons (tVar 0) uNil))) (vName 2))
    (uSeq (uFor (jList K (uCB cSortDS (uCons (tVar 1) uNil))) (vName 3) (uAsg (uOp rCat (uOp rCat (tVar 2) (uCallW (sp_text_bytes K) W (uCons (tVar 3) uNil))) (uCallW (sp_state_bytes K) W (uCons (uDGet (tVar 1) (tVar 3)) uNil))) (vName 2)))
    (uRet (tVar 2)))
theorem pure_image {K : PySem.W.Frag} {vs : List V} {H : Hp} {Q : VK} {E : XK} (h : sp_image K vs H Q E) : t_image K (WE1 E) (fin Q) (start ["state", "snaps", "found", "name"] vs) H := by
  obtain ⟨a, b, S, L, rfl, hS, hL, w, wn, q⟩ := h
  obtain ⟨kvs, hk, pk⟩ := id hL
  have lkv : kvs.length = L.length := Paired.len pk
  show t_image K _ (fin Q) [some (.ref a), some (.ref b), none, none] H
  unfold t_image
  walk_at "go"
  refine x_lenD hk ?_
  rw [lkv]
  walk_at "go"
  refine x_lst fun l0 H1 na ha s1 => ?_
  walk_at "go"
  refine ⟨a, S, rfl, hS.same s1, w, fun l1 H2 n1 h1 s2 => ?_⟩
  walk_at "go"
  have sB := stateB_len w
  refine x_cat (s2 _ _ ha) h1 (by rw [sizeLine_eq, List.length_map]; show 1 + _ ≤ _; omega) fun l2 H3 n2 h2 s3 => ?_
  walk_at "go"
  have s13 := (s1.trans s2).trans s3
  refine x_sortDS (.inl (s13 _ _ hk)) (kv_keys pk) (by rw [List.length_map]; have := wn.ln; omega) fun ys c H4 pm so nb hb s4 => ?_
  rw [sorted_is pm so] at hb
  clear pm so
  have eb : imgB S L = ([(L.length : Int)] ++ stateB S) ++ (sortS (L.map (·.1))).flatMap (snapB L) := rfl
  have hmem : ∀ z ∈ sortS (L.map (·.1)), z ∈ L.map (·.1) := fun z hz => (sortS_perm _).mem_iff.mp hz
  have hlen : (sortS (L.map (·.1))).length = L.length := by rw [(sortS_perm _).length_eq, List.length_map]
  generalize sortS (L.map (·.1)) = zs at eb hb hmem hlen
  refine x_ilist (SqL.of hb) ?_
  have s14 := s13.trans s4
  have h2' : H4 l2 = some (.lst ((([(L.length : Int)] ++ stateB S) ++ (zs.take 0).flatMap (snapB L)).map V.int)) := by
    rw [s4 _ _ h2]
    simp
  refine x_forL (xs := zs.map V.str) (fun i σ H' => (∃ l o, σ = [some (.ref a), some (.ref b), some (.ref l), o] ∧ H' l = some (.lst ((([(L.length : Int)] ++ stateB S) ++ (zs.take i).flatMap (snapB L)).map V.int)) ∧ H l = none) ∧ Same H4 H') ⟨⟨l2, _, rfl, h2', (s1.trans s2).free n2⟩, Same.refl _⟩ (fun i σ H' _ h => SqL.of (h.2 _ _ hb)) (fun i x σ H' hx h => ?_) (fun σ H' h => ?_)
  · obtain ⟨⟨l, o, rfl, hl', nl⟩, s⟩ := h
    rw [List.getElem?_map] at hx
    obtain ⟨z, hz, rfl⟩ := Option.map_eq_some_iff.mp hx
    have hzm := hmem z (List.mem_of_getElem? hz)
    obtain ⟨S2, e2⟩ := lk_some hzm
    have sA := s14.trans s
    have z60 := wn.nl _ (lk_mem e2)
    have w2 := wn.ws _ (lk_mem e2)
    have bl : ((([(L.length : Int)] ++ stateB S) ++ (zs.take i).flatMap (snapB L)).map V.int).length ≤ 3000000 := by
      rw [List.length_map, List.length_append, List.length_append]
      have h5 := flat_len (f := snapB L) (b := 200100) (l := zs.take i) fun y hy => snapB_len wn (hmem y (List.mem_of_mem_take hy))
      have h6 : (zs.take i).length ≤ 10 := by rw [List.length_take]; have := wn.ln; omega
      show 1 + _ + _ ≤ _
      omega
    walk_at "go"
    refine ⟨z, rfl, by simp only at z60; omega, fun l5 H5 n5 h5 s5 => ?_⟩
    walk_at "go"
    have bt : ((tbytes z).map V.int).length ≤ 61 := by rw [List.length_map, tbytes_len]; simp only at z60; omega
    refine x_cat (s5 _ _ hl') h5 (by rw [sizeLine_eq]; omega) fun l6 H6 n6 h6 s6 => ?_
    walk_at "go"
    obtain ⟨kvs', s0, ha', hv, hS2⟩ := snaps_get (hL.same ((sA.trans s5).trans s6)) e2
    refine x_dget (.inl ha') (k := Sum.inr z) rfl hv ?_
    walk_at "go"
    refine ⟨s0, S2, rfl, hS2, w2, fun l7 H7 n7 h7 s7 => ?_⟩
    walk_at "go"
    have bs : ((stateB S2).map V.int).length ≤ 200001 := by rw [List.length_map]; exact stateB_len w2
    refine x_cat (s7 _ _ h6) h7 (by rw [sizeLine_eq, List.length_append]; omega) fun l8 H8 n8 h8 s8 => ?_
    walk_at "go"
    refine ⟨⟨l8, _, rfl, ?_, (((sA.trans s5).trans s6).trans s7).free n8⟩, s.trans (((s5.trans s6).trans s7).trans s8)⟩
    rw [h8, flat_snoc hz]
    have e9 : snapB L z = tbytes z ++ stateB S2 := by unfold snapB; rw [e2]; rfl
    rw [e9]
    simp only [List.map_append, List.append_assoc]
  · obtain ⟨⟨l, o, rfl, hl', nl⟩, s⟩ := h
    walk_at "go"
    rw [List.length_map, List.take_length, ← eb] at hl'
    exact q l H' nl hl' (s14.trans s)
end SP

set_option Elab.async false
set_option linter.all false
set_option maxRecDepth 100000
set_option maxHeartbeats 4000000
/-! Chains of blocks. -/
namespace SP
open PySem PySem.Spec PyProof.Rows L2
local macro_rules | `(tactic| walk_at "hp") => `(tactic| first
  | assumption
  | exact upd_same
  | (refine' sameAt ?sA ?hA; (case sA => assumption); (case hA => walk_at "hp"))
  | (refine' Eq.trans (upd_ne ?nA) ?hA; (case nA => walk_at "ne"); (case hA => walk_at "hp")))
local macro_rules | `(tactic| walk_at "ne") => `(tactic| first
  | assumption
  | (refine' Ne.symm ?hA; assumption)
  | (refine' ne_of_none (H := _) ?hA (by assumption); walk_at "hp")
  | (refine' Ne.symm (ne_of_none (H := _) ?hA (by assumption)); walk_at "hp")
  | (refine' ne_of ?hA ?hB ?hC; (case hA => assumption); (case hB => walk_at "hp"); (case hC => (intro z; cases z))))
local macro_rules | `(tactic| walk_at "sm") => `(tactic| first
  | exact Same.refl _
  | assumption
  | (refine' sameTr ?sA ?sB; (case sA => assumption); (case sB => walk_at "sm")))
local macro_rules | `(tactic| walk_at "dm") => `(tactic| first
  | exact dmRefl
  | assumption
  | (refine' dmUpd ?dA; (case dA => walk_at "dm"))
  | (refine' dmSame ?sA ?dA; (case sA => assumption); (case dA => walk_at "dm")))
local macro_rules | `(tactic| walk_at "fr") => `(tactic| first
  | assumption
  | (refine' dmAt ?dA ?hA; (case hA => assumption); (case dA => walk_at "dm")))
local macro_rules | `(tactic| walk_at "ab") => `(tactic| (exfalso; refine absurd ?hA (noneSome ?hB); (case hB => walk_at "hp"); (case hA => assumption)))
local macro_rules | `(tactic| walk_at "kp") => `(tactic| first
  | exact Keep.refl
  | assumption
  | (refine' Keep.trans ?kA (keepUpd ?kB ?kC ?kD); (case kB => simp); (case kC => walk_at "hp"); (case kD => (intro xs z; cases z)); (case kA => walk_at "kp"))
  | (refine' keepTr ?kB ?kA; (case kB => assumption); (case kA => walk_at "kp"))
  | (refine' keepSm ?kB ?kA; (case kB => assumption); (case kA => walk_at "kp")))
local macro_rules | `(tactic| walk_at "get") => `(tactic| first
  | (refine' x_get_Files_state ?T ?h ?_) | (refine' x_get_Thing_kind ?T ?h ?_) | (refine' x_get_Thing_entries ?T ?h ?_) | (refine' x_get_Thing_held ?T ?h ?_)
  | (refine' x_get_Files_disk ?T ?h ?_) | (refine' x_get_Files_kept ?T ?h ?_) | (refine' x_get_Files_used ?T ?h ?_)
  | (refine' x_get_Disk_blocks ?T ?h ?_) | (refine' x_get_Disk_log ?T ?h ?_)
  | (refine' x_get_Reader_row ?T ?h ?_) | (refine' x_get_Reader_at ?T ?h ?_) | (refine' x_get_Reader_good ?T ?h ?_)
  | (refine' x_get_Files_slot ?T ?h ?_) | (refine' x_get_Files_turn ?T ?h ?_) | (refine' x_get_Files_is_new ?T ?h ?_))
local macro_rules | `(tactic| walk_at "set") => `(tactic| first
  | ((with_reducible refine' x_set_Disk_blocks ?T ?h ?_); (case T => assumption); (case h => walk_at "hp"))
  | ((with_reducible refine' i_set_Disk_blocks ?T ?h ?_); (case T => assumption); (case h => walk_at "hp"))
  | ((with_reducible refine' x_set_Disk_log ?T ?h ?_); (case T => assumption); (case h => walk_at "hp"))
  | ((with_reducible refine' i_set_Disk_log ?T ?h ?_); (case T => assumption); (case h => walk_at "hp"))
  | ((with_reducible refine' x_set_Thing_kind ?T ?h ?_); (case T => assumption); (case h => walk_at "hp"))
  | ((with_reducible refine' i_set_Thing_kind ?T ?h ?_); (case T => assumption); (case h => walk_at "hp"))
  | ((with_reducible refine' x_set_Thing_held ?T ?h ?_); (case T => assumption); (case h => walk_at "hp"))
  | ((with_reducible refine' i_set_Thing_held ?T ?h ?_); (case T => assumption); (case h => walk_at "hp"))
  | ((with_reducible refine' x_set_Thing_entries ?T ?h ?_); (case T => assumption); (case h => walk_at "hp"))
  | ((with_reducible refine' i_set_Thing_entries ?T ?h ?_); (case T => assumption); (case h => walk_at "hp"))
  | ((with_reducible refine' x_set_Reader_row ?T ?h ?_); (case T => assumption); (case h => walk_at "hp"))
  | ((with_reducible refine' i_set_Reader_row ?T ?h ?_); (case T => assumption); (case h => walk_at "hp"))
  | ((with_reducible refine' x_set_Reader_at ?T ?h ?_); (case T => assumption); (case h => walk_at "hp"))
  | ((with_reducible refine' i_set_Reader_at ?T ?h ?_); (case T => assumption); (case h => walk_at "hp"))
  | ((with_reducible refine' x_set_Reader_good ?T ?h ?_); (case T => assumption); (case h => walk_at "hp"))
  | ((with_reducible refine' i_set_Reader_good ?T ?h ?_); (case T => assumption); (case h => walk_at "hp"))
  | ((with_reducible refine' x_set_Files_disk ?T ?h ?_); (case T => assumption); (case h => walk_at "hp"))
  | ((with_reducible refine' i_set_Files_disk ?T ?h ?_); (case T => assumption); (case h => walk_at "hp"))
  | ((with_reducible refine' x_set_Files_state ?T ?h ?_); (case T => assumption); (case h => walk_at "hp"))
  | ((with_reducible refine' i_set_Files_state ?T ?h ?_); (case T => assumption); (case h => walk_at "hp"))
  | ((with_reducible refine' x_set_Files_kept ?T ?h ?_); (case T => assumption); (case h => walk_at "hp"))
  | ((with_reducible refine' i_set_Files_kept ?T ?h ?_); (case T => assumption); (case h => walk_at "hp"))
  | ((with_reducible refine' x_set_Files_slot ?T ?h ?_); (case T => assumption); (case h => walk_at "hp"))
  | ((with_reducible refine' i_set_Files_slot ?T ?h ?_); (case T => assumption); (case h => walk_at "hp"))
  | ((with_reducible refine' x_set_Files_turn ?T ?h ?_); (case T => assumption); (case h => walk_at "hp"))
  | ((with_reducible refine' i_set_Files_turn ?T ?h ?_); (case T => assumption); (case h => walk_at "hp"))
  | ((with_reducible refine' x_set_Files_used ?T ?h ?_); (case T => assumption); (case h => walk_at "hp"))
  | ((with_reducible refine' i_set_Files_used ?T ?h ?_); (case T => assumption); (case h => walk_at "hp"))
  | ((with_reducible refine' x_set_Files_is_new ?T ?h ?_); (case T => assumption); (case h => walk_at "hp"))
  | ((with_reducible refine' i_set_Files_is_new ?T ?h ?_); (case T => assumption); (case h => walk_at "hp")))
local macro_rules | `(tactic| walk_at "go1") => `(tactic| first
  | ((with_reducible refine w_var (v := ?vv) ?e ?_); (case e => rfl))
  | ((with_reducible walk_at "get"); (case T => assumption); (case h => walk_at "hp"))
  | (with_reducible refine x_bl ?_)
  | (with_reducible refine x_isN ?_) | (with_reducible refine x_notN ?_) | (with_reducible refine x_eqI ?_) | (with_reducible refine x_neI ?_) | (with_reducible refine x_eqS ?_) | (with_reducible refine x_neS ?_)
  | (with_reducible refine x_addI ?_) | (with_reducible refine x_subI ?_) | (with_reducible refine x_ltI ?_) | (with_reducible refine x_leI ?_) | (with_reducible refine x_gtI ?_) | (with_reducible refine x_geI ?_)
  | (with_reducible refine x_bv ?_) | (with_reducible refine x_part ?_) | (with_reducible refine x_neg ?_) | (with_reducible refine x_inS ?_)
  | (walk_at "set")
  | ((with_reducible refine' x_bmL ?h ?_); (case h => walk_at "hp")) | ((with_reducible refine' x_bmL0 ?h ?_); (case h => walk_at "hp")))
local macro_rules | `(tactic| walk_at "go") => `(tactic| ((try with_reducible (conv => whnf)); repeat ((walk_at "go1"); (try with_reducible (conv => whnf)))))
def manyBlocks (n : Nat) : Int := ((n : Int) + 62 - 1) / 62
def sp_many_blocks (K : PySem.W.Frag) : Sp := fun vs H Q E => ∃ (r : Addr) (xs : List V), vs = [.ref r] ∧ H r = some (.lst xs) ∧ ∀ H', Same H H' → Q (.int (manyBlocks xs.length)) H'
def t_many_blocks (K : PySem.W.Frag) (W : WX) : TS := uRet (uOp rDivI (uOp rSubI (uOp rAddI (uCB (cLenQ K) (uCons (tVar 0) uNil)) (uC (.int 62))) (uC (.int 1))) (uC (.int 62)))
theorem pure_many_blocks {K : PySem.W.Frag} {vs : List V} {H : Hp} {Q : VK} {E : XK} (h : sp_many_blocks K vs H Q E) : t_many_blocks K (WE1 E) (fin Q) (start ["row"] vs) H := by
  obtain ⟨r, xs, rfl, hr, q⟩ := h
  show t_many_blocks K _ (fin Q) [some (.ref r)] H
  unfold t_many_blocks
  walk_at "go"
  refine x_lenL hr ?_
  walk_at "go"
  refine x_divI ⟨by decide, by decide⟩ ?_
  exact q H (Same.refl H)
def padL (xs : List Int) : List Int := xs ++ List.replicate (64 - xs.length) 0
def sp_padded (K : PySem.W.Frag) : Sp := fun vs H Q E => ∃ (r : Addr) (xs : List Int), vs = [.ref r] ∧ H r = some (.lst (xs.map V.int)) ∧ xs.length ≤ 64 ∧ ∀ p H', H p = none → H' p = some (.tup ((padL xs).map V.int)) → Same H H' → Q (.ref p) H'
def t_padded (K : PySem.W.Frag) (W : WX) : TS := uRet (uCB (cTuple K) (uCons (uOp rCat (tVar 0) (uOp rRep (uLst (uCons (uC (.int 0)) uNil)) (uOp rSubI (uC (.int 64)) (uCB (cLenQ K) (uCons (tVar 0) uNil))))) uNil))
theorem pure_padded {K : PySem.W.Frag} {vs : List V} {H : Hp} {Q : VK} {E : XK} (h : sp_padded K vs H Q E) : t_padded K (WE1 E) (fin Q) (start ["row"] vs) H := by
  obtain ⟨r, xs, rfl, hr, hl, q⟩ := h
  show t_padded K _ (fin Q) [some (.ref r)] H
  unfold t_padded
  walk_at "go"
  refine x_lst fun a H1 na ha s1 => ?_
  walk_at "go"
  refine x_lenL (s1 _ _ hr) ?_
  rw [List.length_map]
  walk_at "go"
  refine x_rep ha (by omega) (by omega) (by rw [sizeLine_eq]; show 1 * _ ≤ _; omega) fun b H2 nb hb s2 => ?_
  have e0 : (List.replicate (64 - (xs.length : Int)).toNat [V.int 0]).flatten = (List.replicate (64 - xs.length) (0 : Int)).map V.int := by
    rw [flat_one, List.map_replicate]
    congr 1
    omega
  rw [e0] at hb
  refine x_cat (s2 _ _ (s1 _ _ hr)) hb (by rw [sizeLine_eq, List.length_map, List.length_map, List.length_replicate]; omega) fun c H3 nc hc s3 => ?_
  walk_at "go"
  refine x_tupleL (SqL.of hc) fun p H4 np hp s4 => ?_
  refine q p H4 (s1.free (s2.free (s3.free np))) ?_ (((s1.trans s2).trans s3).trans s4)
  rw [hp]
  unfold padL
  rw [List.map_append]
theorem padL_len {xs : List Int} (h : xs.length ≤ 64) : (padL xs).length = 64 := by
  unfold padL
  rw [List.length_append, List.length_replicate]
  omega
/-! ### write_root -/
def rootL (turn first : Int) : List Int := padL [83, turn / 16777216 % 256, turn / 65536 % 256, turn / 256 % 256, turn % 256, first]
def sp_write_root (K : PySem.W.Frag) : Sp := fun vs H Q E => ∃ (p bl lg : Addr) (n turn first : Int) (B : List (Option (List Int))) (L : List Ent), vs = [.ref p, .int n, .int turn, .int first] ∧ DiskAt K H p bl lg B L ∧ 0 ≤ n ∧ n.toNat < B.length ∧ L.length ≤ 90000 ∧
  ∀ H', Keep [bl, lg] H H' → DiskAt K H' p bl lg (B.set n.toNat (some (rootL turn first))) (L ++ [.wr n (rootL turn first)]) → Q .non H'
def t_write_root (K : PySem.W.Frag) (W : WX) : TS := uDrop (uMethW (He.ga K "Disk") "write" (sp_Disk_write K) W (tVar 0) (uCons (tVar 1) (uCons (uCallW (sp_padded K) W (uCons (uLst (uCons (uC (.int 83)) (uCons (uOp rModI (uOp rDivI (tVar 2) (uC (.int 16777216))) (uC (.int 256))) (uCons (uOp rModI (uOp rDivI (tVar 2) (uC (.int 65536))) (uC (.int 256))) (uCons (uOp rModI (uOp rDivI (tVar 2) (uC (.int 256))) (uC (.int 256))) (uCons (uOp rModI (tVar 2) (uC (.int 256))) (uCons (tVar 3) uNil))))))) uNil)) uNil)))
theorem keep_pre {ms : List Addr} {H H1 H2 : Hp} (s : Same H H1) (k : Keep ms H1 H2) : Keep ms H H2 := (Keep.of s).trans k
theorem pure_write_root {K : PySem.W.Frag} {vs : List V} {H : Hp} {Q : VK} {E : XK} (h : sp_write_root K vs H Q E) : t_write_root K (WE1 E) (fin Q) (start ["disk", "slot", "turn", "first"] vs) H := by
  obtain ⟨p, bl, lg, n, turn, first, B, L, rfl, D, h0, hn, hl, q⟩ := h
  obtain ⟨dx, ho⟩ := D.o
  show t_write_root K _ (fin Q) [some (.ref p), some (.int n), some (.int turn), some (.int first)] H
  unfold t_write_root
  walk_at "go"
  refine x_meth_Disk_write ho ?_
  walk_at "go"
  refine x_divI ⟨by decide, by decide⟩ ?_
  walk_at "go"
  refine x_modI (by decide) ?_
  walk_at "go"
  refine x_divI ⟨by decide, by decide⟩ ?_
  walk_at "go"
  refine x_modI (by decide) ?_
  walk_at "go"
  refine x_divI ⟨by decide, by decide⟩ ?_
  walk_at "go"
  refine x_modI (by decide) ?_
  walk_at "go"
  refine x_modI (by decide) ?_
  walk_at "go"
  refine x_lst fun a H1 na ha s1 => ?_
  walk_at "go"
  refine ⟨a, [83, turn / 16777216 % 256, turn / 65536 % 256, turn / 256 % 256, turn % 256, first], rfl, ha, Nat.le_of_ble_eq_true rfl, fun t H2 nt ht s2 => ?_⟩
  walk_at "go"
  refine ⟨p, bl, lg, t, n, B, L, _, rfl, (D.same s1).same s2, h0, hn, by omega, ht, fun H3 k3 D3 => ?_⟩
  walk_at "go"
  exact q H3 (keep_pre (s1.trans s2) k3) D3
/-! ### write_chain -/
def partL (row : List Int) (k : Nat) : List Int := (row.drop (k * 62)).take 62
def blkL (row nums : List Int) (k : Nat) : List Int := padL ([((nums.drop (k + 1)).head?.getD 0), ((partL row k).length : Int)] ++ partL row k)
def chainW (row nums : List Int) (n : Nat) : List (Int × List Int) := (List.range n).map fun k => (nums.getD k 0, blkL row nums k)
def setW (B : List (Option (List Int))) (es : List (Int × List Int)) : List (Option (List Int)) := es.foldl (fun B e => B.set e.1.toNat (some e.2)) B
def logW (es : List (Int × List Int)) : List Ent := es.map fun e => .wr e.1 e.2
theorem setW_len : ∀ {es : List (Int × List Int)} {B : List (Option (List Int))}, (setW B es).length = B.length
  | [], _ => rfl
  | e :: r, B => by
    show (setW (B.set _ _) r).length = _
    rw [setW_len, List.length_set]
theorem partL_len (row : List Int) (k : Nat) : (partL row k).length ≤ 62 := List.length_take_le ..
theorem cutV_nat {xs : List V} {a b : Nat} : cutV xs (some (a : Int)) (some (b : Int)) = (xs.drop a).take (b - a) := by
  unfold cutV
  rw [HT.sIx_nat, HT.sIx_nat]
  by_cases h : a ≤ xs.length
  · rw [Nat.min_eq_left h]
    by_cases h2 : b ≤ xs.length
    · rw [Nat.min_eq_left h2]
    · rw [Nat.min_eq_right (by omega), List.take_of_length_le (by rw [List.length_drop]; omega), List.take_of_length_le (by rw [List.length_drop]; omega)]
  · have e1 : min a xs.length = xs.length := Nat.min_eq_right (by omega)
    rw [e1, List.drop_eq_nil_of_le (Nat.le_refl _), List.drop_eq_nil_of_le (show xs.length ≤ a by omega), List.take_nil, List.take_nil]
theorem cutV_from {xs : List V} {a : Nat} : cutV xs (some (a : Int)) none = xs.drop a := by
  unfold cutV
  rw [HT.sIx_nat, HT.sIx_none]
  by_cases h : a ≤ xs.length
  · rw [Nat.min_eq_left h, List.take_of_length_le (by rw [List.length_drop]; omega)]
  · have e1 : min a xs.length = xs.length := Nat.min_eq_right (by omega)
    rw [e1, List.drop_eq_nil_of_le (Nat.le_refl _), List.drop_eq_nil_of_le (show xs.length ≤ a by omega), List.take_nil]
theorem chainW_succ (row nums : List Int) (k : Nat) : chainW row nums (k + 1) = chainW row nums k ++ [(nums.getD k 0, blkL row nums k)] := by
  unfold chainW
  rw [List.range_succ, List.map_append]
  rfl
def sp_write_chain (K : PySem.W.Frag) : Sp := fun vs H Q E => ∃ (p bl lg r u : Addr) (row nums : List Int) (B : List (Option (List Int))) (L : List Ent), vs = [.ref p, .ref r, .ref u] ∧ DiskAt K H p bl lg B L ∧ H r = some (.lst (row.map V.int)) ∧ H u = some (.lst (nums.map V.int)) ∧
  r ∉ [bl, lg] ∧ u ∉ [bl, lg] ∧ (∀ n ∈ nums, 0 ≤ n ∧ n.toNat < B.length) ∧ L.length + nums.length ≤ 90000 ∧ nums.length ≤ 1000 ∧
  ∀ H', Keep [bl, lg] H H' → DiskAt K H' p bl lg (setW B (chainW row nums nums.length)) (L ++ logW (chainW row nums nums.length)) → Q .non H'
def t_write_chain (K : PySem.W.Frag) (W : WX) : TS := uFor (jRng1 (uCons (uCB (cLenQ K) (uCons (tVar 2) uNil)) uNil)) (vName 3) (uSeq (uAsg (uSl (rSlL K) (tVar 1) (uPart (uOp rMulI (tVar 3) (uC (.int 62)))) (uPart (uOp rMulI (uOp rAddI (tVar 3) (uC (.int 1))) (uC (.int 62))))) (vName 4))
    (uSeq (uAsg (uOp (rIxL K) (uOp rCat (uSl (rSlL K) (tVar 2) (uPart (uOp rAddI (tVar 3) (uC (.int 1)))) uNoPart) (uLst (uCons (uC (.int 0)) uNil))) (uC (.int 0))) (vName 5))
    (uDrop (uMethW (He.ga K "Disk") "write" (sp_Disk_write K) W (tVar 0) (uCons (uOp (rIxL K) (tVar 2) (tVar 3)) (uCons (uCallW (sp_padded K) W (uCons (uOp rCat (uLst (uCons (tVar 5) (uCons (uCB (cLenQ K) (uCons (tVar 4) uNil)) uNil))) (tVar 4)) uNil)) uNil))))))
theorem pure_write_chain {K : PySem.W.Frag} {vs : List V} {H : Hp} {Q : VK} {E : XK} (h : sp_write_chain K vs H Q E) : t_write_chain K (WE1 E) (fin Q) (start ["disk", "row", "numbers", "k", "part", "following"] vs) H := by
  obtain ⟨p, bl, lg, r, u, row, nums, B, L, rfl, D, hr, hu, nr, nu, hn, hL, hN, q⟩ := h
  show t_write_chain K _ (fin Q) [some (.ref p), some (.ref r), some (.ref u), none, none, none] H
  unfold t_write_chain
  walk_at "go"
  refine x_lenL hu ?_
  rw [List.length_map]
  walk_at "go"
  refine x_rng1 (by omega) (by omega) ?_
  refine x_forR (fun k σ H' => (∃ o1 o2 o3, σ = [some (.ref p), some (.ref r), some (.ref u), o1, o2, o3]) ∧ Keep [bl, lg] H H' ∧ DiskAt K H' p bl lg (setW B (chainW row nums k)) (L ++ logW (chainW row nums k))) ⟨⟨_, _, _, rfl⟩, Keep.refl, by
    have e : L ++ logW (chainW row nums 0) = L := List.append_nil L
    rw [e]
    exact D⟩ (fun k σ H' hk h => ?_) (fun σ H' h => ?_)
  · obtain ⟨⟨o1, o2, o3, rfl⟩, kp, D1⟩ := h
    have hk2 : k < nums.length := by omega
    have hr1 := kp.k _ _ nr hr
    have hu1 := kp.k _ _ nu hu
    have e0 : ((0 : Int) + (k : Int)) = (k : Int) := Int.zero_add _
    obtain ⟨dx, ho⟩ := D1.o
    rw [e0]
    walk_at "go"
    refine x_mulI (.inr ⟨by decide, by decide⟩) ?_
    walk_at "go"
    refine x_mulI (.inr ⟨by decide, by decide⟩) ?_
    walk_at "go"
    refine x_slL (SqL.of hr1) fun a H2 na ha s2 => ?_
    have ea : cutV (row.map V.int) (some ((k : Int) * 62)) (some (((k : Int) + 1) * 62)) = (partL row k).map V.int := by
      have h1 : ((k : Int) * 62) = ((k * 62 : Nat) : Int) := by omega
      have h2 : (((k : Int) + 1) * 62) = (((k + 1) * 62 : Nat) : Int) := by omega
      rw [h1, h2, cutV_nat]
      unfold partL
      rw [List.map_take, List.map_drop]
      congr 1
      omega
    rw [ea] at ha
    walk_at "go"
    refine x_slL (SqL.of (s2 _ _ hu1)) fun b H3 nb hb s3 => ?_
    have eb : cutV (nums.map V.int) (some ((k : Int) + 1)) none = (nums.drop (k + 1)).map V.int := by
      have h1 : ((k : Int) + 1) = ((k + 1 : Nat) : Int) := by omega
      rw [h1, cutV_from, List.map_drop]
    rw [eb] at hb
    walk_at "go"
    refine x_lst fun c H4 nc hc s4 => ?_
    walk_at "go"
    refine x_cat (s4 _ _ hb) hc (by rw [sizeLine_eq, List.length_map, List.length_drop]; show _ + 1 ≤ _; omega) fun e H5 ne he s5 => ?_
    walk_at "go"
    refine x_ixL (v := .int ((nums.drop (k + 1)).head?.getD 0)) (SqL.of he) (atI_of (by decide) (by
      show ((nums.drop (k + 1)).map V.int ++ [V.int 0])[0]? = _
      cases nums.drop (k + 1) with
      | nil => rfl
      | cons x y => rfl)) ?_
    walk_at "go"
    have ss := ((s2.trans s3).trans s4).trans s5
    refine x_meth_Disk_write (ss _ _ ho) ?_
    walk_at "go"
    refine x_ixL (v := .int (nums.getD k 0)) (SqL.of (ss _ _ hu1)) (atI_of (by omega) (by
      rw [Int.toNat_natCast, List.getElem?_map, List.getD_eq_getElem?_getD, List.getElem?_eq_getElem hk2]
      rfl)) ?_
    walk_at "go"
    have ha5 := s5 _ _ (s4 _ _ (s3 _ _ ha))
    refine x_lenL ha5 ?_
    rw [List.length_map]
    walk_at "go"
    refine x_lst fun g H6 ng hg s6 => ?_
    walk_at "go"
    have pl := partL_len row k
    refine x_cat hg (s6 _ _ ha5) (by rw [sizeLine_eq, List.length_map]; show 2 + _ ≤ _; omega) fun i H7 ni hi s7 => ?_
    walk_at "go"
    refine ⟨i, [((nums.drop (k + 1)).head?.getD 0), ((partL row k).length : Int)] ++ partL row k, rfl, by rw [hi, List.map_append]; rfl, by rw [List.length_append]; show 2 + _ ≤ _; omega, fun t H8 nt ht s8 => ?_⟩
    walk_at "go"
    have hm : nums.getD k 0 ∈ nums := by
      rw [List.getD_eq_getElem?_getD, List.getElem?_eq_getElem hk2]
      exact List.getElem_mem hk2
    have s18 := (((ss.trans s6).trans s7).trans s8)
    obtain ⟨g0, g1⟩ := hn _ hm
    have lc : (chainW row nums k).length = k := by unfold chainW; rw [List.length_map, List.length_range]
    refine ⟨p, bl, lg, t, nums.getD k 0, _, _, blkL row nums k, rfl, D1.same s18, g0, by rw [setW_len]; exact g1, by unfold logW; rw [List.length_append, List.length_map, lc]; omega, ht, fun H9 k9 D9 => ?_⟩
    walk_at "go"
    refine ⟨⟨_, _, _, rfl⟩, kp.trans (keep_pre s18 k9), ?_⟩
    have e1 : setW B (chainW row nums (k + 1)) = (setW B (chainW row nums k)).set (nums.getD k 0).toNat (some (blkL row nums k)) := by
      rw [chainW_succ]
      unfold setW
      rw [List.foldl_append]
      rfl
    have e2 : L ++ logW (chainW row nums (k + 1)) = L ++ logW (chainW row nums k) ++ [.wr (nums.getD k 0) (blkL row nums k)] := by
      rw [chainW_succ]
      unfold logW
      rw [List.map_append, List.append_assoc]
      rfl
    rw [e1, e2]
    exact D9
  · obtain ⟨⟨o1, o2, o3, rfl⟩, kp, D1⟩ := h
    walk_at "go"
    rw [Int.toNat_natCast] at D1
    exact q H' kp D1
end SP

set_option Elab.async false
set_option linter.all false
set_option maxRecDepth 100000
set_option maxHeartbeats 4000000
/-! Files: made, become, looked at. -/
namespace SP
open PySem PySem.Spec PyProof.Rows L2
local macro_rules | `(tactic| walk_at "hp") => `(tactic| first
  | assumption
  | exact upd_same
  | (refine' sameAt ?sA ?hA; (case sA => assumption); (case hA => walk_at "hp"))
  | (refine' Eq.trans (upd_ne ?nA) ?hA; (case nA => walk_at "ne"); (case hA => walk_at "hp")))
local macro_rules | `(tactic| walk_at "ne") => `(tactic| first
  | assumption
  | (refine' Ne.symm ?hA; assumption)
  | (refine' ne_of_none (H := _) ?hA (by assumption); walk_at "hp")
  | (refine' Ne.symm (ne_of_none (H := _) ?hA (by assumption)); walk_at "hp")
  | (refine' ne_of ?hA ?hB ?hC; (case hA => assumption); (case hB => walk_at "hp"); (case hC => (intro z; cases z))))
local macro_rules | `(tactic| walk_at "sm") => `(tactic| first
  | exact Same.refl _
  | assumption
  | (refine' sameTr ?sA ?sB; (case sA => assumption); (case sB => walk_at "sm")))
local macro_rules | `(tactic| walk_at "dm") => `(tactic| first
  | exact dmRefl
  | assumption
  | (refine' dmUpd ?dA; (case dA => walk_at "dm"))
  | (refine' dmSame ?sA ?dA; (case sA => assumption); (case dA => walk_at "dm")))
local macro_rules | `(tactic| walk_at "fr") => `(tactic| first
  | assumption
  | (refine' dmAt ?dA ?hA; (case hA => assumption); (case dA => walk_at "dm")))
local macro_rules | `(tactic| walk_at "ab") => `(tactic| (exfalso; refine absurd ?hA (noneSome ?hB); (case hB => walk_at "hp"); (case hA => assumption)))
local macro_rules | `(tactic| walk_at "kp") => `(tactic| first
  | exact Keep.refl
  | assumption
  | (refine' Keep.trans ?kA (keepUpd ?kB ?kC ?kD); (case kB => simp); (case kC => walk_at "hp"); (case kD => (intro xs z; cases z)); (case kA => walk_at "kp"))
  | (refine' keepTr ?kB ?kA; (case kB => assumption); (case kA => walk_at "kp"))
  | (refine' keepSm ?kB ?kA; (case kB => assumption); (case kA => walk_at "kp")))
local macro_rules | `(tactic| walk_at "get") => `(tactic| first
  | (refine' x_get_Files_state ?T ?h ?_) | (refine' x_get_Thing_kind ?T ?h ?_) | (refine' x_get_Thing_entries ?T ?h ?_) | (refine' x_get_Thing_held ?T ?h ?_)
  | (refine' x_get_Files_disk ?T ?h ?_) | (refine' x_get_Files_kept ?T ?h ?_) | (refine' x_get_Files_used ?T ?h ?_)
  | (refine' x_get_Disk_blocks ?T ?h ?_) | (refine' x_get_Disk_log ?T ?h ?_)
  | (refine' x_get_Reader_row ?T ?h ?_) | (refine' x_get_Reader_at ?T ?h ?_) | (refine' x_get_Reader_good ?T ?h ?_)
  | (refine' x_get_Files_slot ?T ?h ?_) | (refine' x_get_Files_turn ?T ?h ?_) | (refine' x_get_Files_is_new ?T ?h ?_))
local macro_rules | `(tactic| walk_at "set") => `(tactic| first
  | ((with_reducible refine' x_set_Disk_blocks ?T ?h ?_); (case T => assumption); (case h => walk_at "hp"))
  | ((with_reducible refine' i_set_Disk_blocks ?T ?h ?_); (case T => assumption); (case h => walk_at "hp"))
  | ((with_reducible refine' x_set_Disk_log ?T ?h ?_); (case T => assumption); (case h => walk_at "hp"))
  | ((with_reducible refine' i_set_Disk_log ?T ?h ?_); (case T => assumption); (case h => walk_at "hp"))
  | ((with_reducible refine' x_set_Thing_kind ?T ?h ?_); (case T => assumption); (case h => walk_at "hp"))
  | ((with_reducible refine' i_set_Thing_kind ?T ?h ?_); (case T => assumption); (case h => walk_at "hp"))
  | ((with_reducible refine' x_set_Thing_held ?T ?h ?_); (case T => assumption); (case h => walk_at "hp"))
  | ((with_reducible refine' i_set_Thing_held ?T ?h ?_); (case T => assumption); (case h => walk_at "hp"))
  | ((with_reducible refine' x_set_Thing_entries ?T ?h ?_); (case T => assumption); (case h => walk_at "hp"))
  | ((with_reducible refine' i_set_Thing_entries ?T ?h ?_); (case T => assumption); (case h => walk_at "hp"))
  | ((with_reducible refine' x_set_Reader_row ?T ?h ?_); (case T => assumption); (case h => walk_at "hp"))
  | ((with_reducible refine' i_set_Reader_row ?T ?h ?_); (case T => assumption); (case h => walk_at "hp"))
  | ((with_reducible refine' x_set_Reader_at ?T ?h ?_); (case T => assumption); (case h => walk_at "hp"))
  | ((with_reducible refine' i_set_Reader_at ?T ?h ?_); (case T => assumption); (case h => walk_at "hp"))
  | ((with_reducible refine' x_set_Reader_good ?T ?h ?_); (case T => assumption); (case h => walk_at "hp"))
  | ((with_reducible refine' i_set_Reader_good ?T ?h ?_); (case T => assumption); (case h => walk_at "hp"))
  | ((with_reducible refine' x_set_Files_disk ?T ?h ?_); (case T => assumption); (case h => walk_at "hp"))
  | ((with_reducible refine' i_set_Files_disk ?T ?h ?_); (case T => assumption); (case h => walk_at "hp"))
  | ((with_reducible refine' x_set_Files_state ?T ?h ?_); (case T => assumption); (case h => walk_at "hp"))
  | ((with_reducible refine' i_set_Files_state ?T ?h ?_); (case T => assumption); (case h => walk_at "hp"))
  | ((with_reducible refine' x_set_Files_kept ?T ?h ?_); (case T => assumption); (case h => walk_at "hp"))
  | ((with_reducible refine' i_set_Files_kept ?T ?h ?_); (case T => assumption); (case h => walk_at "hp"))
  | ((with_reducible refine' x_set_Files_slot ?T ?h ?_); (case T => assumption); (case h => walk_at "hp"))
  | ((with_reducible refine' i_set_Files_slot ?T ?h ?_); (case T => assumption); (case h => walk_at "hp"))
  | ((with_reducible refine' x_set_Files_turn ?T ?h ?_); (case T => assumption); (case h => walk_at "hp"))
  | ((with_reducible refine' i_set_Files_turn ?T ?h ?_); (case T => assumption); (case h => walk_at "hp"))
  | ((with_reducible refine' x_set_Files_used ?T ?h ?_); (case T => assumption); (case h => walk_at "hp"))
  | ((with_reducible refine' i_set_Files_used ?T ?h ?_); (case T => assumption); (case h => walk_at "hp"))
  | ((with_reducible refine' x_set_Files_is_new ?T ?h ?_); (case T => assumption); (case h => walk_at "hp"))
  | ((with_reducible refine' i_set_Files_is_new ?T ?h ?_); (case T => assumption); (case h => walk_at "hp")))
local macro_rules | `(tactic| walk_at "go1") => `(tactic| first
  | ((with_reducible refine w_var (v := ?vv) ?e ?_); (case e => rfl))
  | ((with_reducible walk_at "get"); (case T => assumption); (case h => walk_at "hp"))
  | (with_reducible refine x_bl ?_)
  | (with_reducible refine x_isN ?_) | (with_reducible refine x_notN ?_) | (with_reducible refine x_eqI ?_) | (with_reducible refine x_neI ?_) | (with_reducible refine x_eqS ?_) | (with_reducible refine x_neS ?_)
  | (with_reducible refine x_addI ?_) | (with_reducible refine x_subI ?_) | (with_reducible refine x_ltI ?_) | (with_reducible refine x_leI ?_) | (with_reducible refine x_gtI ?_) | (with_reducible refine x_geI ?_)
  | (with_reducible refine x_bv ?_) | (with_reducible refine x_part ?_) | (with_reducible refine x_neg ?_) | (with_reducible refine x_inS ?_)
  | (walk_at "set")
  | ((with_reducible refine' x_bmL ?h ?_); (case h => walk_at "hp")) | ((with_reducible refine' x_bmL0 ?h ?_); (case h => walk_at "hp")))
local macro_rules | `(tactic| walk_at "go") => `(tactic| ((try with_reducible (conv => whnf)); repeat ((walk_at "go1"); (try with_reducible (conv => whnf)))))
structure Fs where
  S : St
  L : Sn
  slot : Int
  turn : Int
  used : List Int
  new : Bool
/-- files at f, over the disk's value dv; ms: what may change -/
structure FilesAt (K : PySem.W.Frag) (ms : List Addr) (H : Hp) (f : Addr) (dv : V) (F : Fs) : Prop where
  o : ∃ dx s kp us, H f = some (oFiles K dx dv (.ref s) (.ref kp) (.int F.slot) (.int F.turn) (.ref us) (.bl F.new)) ∧ StateAt K (av ms H) s F.S ∧ SnapsAt K (av ms H) kp F.L ∧ av ms H us = some (.lst (F.used.map V.int))
theorem av_same (ms : List Addr) (H : Hp) : Same (av ms H) H := fun a o h => (av_of h).2
theorem keep_av {ms ns : List Addr} {H H' : Hp} (k : Keep ns H H') (s : ∀ a ∈ ns, a ∈ ms) : Same (av ms H) (av ms H') := fun a o h => by
  obtain ⟨n, h⟩ := av_of h
  exact av_at (k.k a o (fun z => n (s a z)) h) n
theorem same_avs {ms : List Addr} {H H' : Hp} (k : Same H H') : Same (av ms H) (av ms H') := keep_av (ns := []) (Keep.of k) (fun a h => by cases h)
theorem FilesAt.keep {K : PySem.W.Frag} {ms ns : List Addr} {H H' : Hp} {f : Addr} {dv : V} {F : Fs} (h : FilesAt K ms H f dv F) (k : Keep ns H H') (s : ∀ a ∈ ns, a ∈ ms) (n : f ∉ ns) : FilesAt K ms H' f dv F := by
  obtain ⟨dx, st, kp, us, h1, h2, h3, h4⟩ := h.o
  have z := keep_av k s
  exact ⟨⟨dx, st, kp, us, k.k _ _ n h1, h2.same z, h3.same z, z _ _ h4⟩⟩
theorem FilesAt.same {K : PySem.W.Frag} {ms : List Addr} {H H' : Hp} {f : Addr} {dv : V} {F : Fs} (h : FilesAt K ms H f dv F) (s : Same H H') : FilesAt K ms H' f dv F := h.keep (ns := []) (Keep.of s) (fun a h => by cases h) (by simp)
/-! ### Files.__init__ -/
def sp_Files___init__ (K : PySem.W.Frag) : Sp := fun vs H Q E => ∃ (p dx : Addr) (dv sv kv : V), vs = [.ref p, dv, sv, kv] ∧ H p = some (.ins (He.ga K "Files") dx []) ∧
  ∀ us H', H us = none → Keep [p] H H' → H' p = some (oFiles K dx dv sv kv (.int 0) (.int 1) (.ref us) (.bl false)) → H' us = some (.lst []) → Q .non H'
def t_Files___init__ (K : PySem.W.Frag) (W : WX) : TS := uSeq (uFldS K (tVar 0) (tVar 1) "disk")
    (uSeq (uFldS K (tVar 0) (tVar 2) "state")
    (uSeq (uFldS K (tVar 0) (tVar 3) "kept")
    (uSeq (uFldS K (tVar 0) (uC (.int 0)) "slot")
    (uSeq (uFldS K (tVar 0) (uC (.int 1)) "turn")
    (uSeq (uFldS K (tVar 0) (uLst uNil) "used")
    (uFldS K (tVar 0) (uC (.bl false)) "is_new"))))))
theorem pure_Files___init__ {K : PySem.W.Frag} (T : PxFiles K) {vs : List V} {H : Hp} {Q : VK} {E : XK} (h : sp_Files___init__ K vs H Q E) : t_Files___init__ K (WE1 E) (fin Q) (start ["self", "disk", "state", "snaps"] vs) H := by
  obtain ⟨p, dx, dv, sv, kv, rfl, hp, q⟩ := h
  show t_Files___init__ K _ (fin Q) [some (.ref p), some dv, some sv, some kv] H
  unfold t_Files___init__
  walk_at "go"
  refine x_lst fun a H2 na ha s2 => ?_
  walk_at "go"
  have na0 : H a = none := freeUpd (freeUpd (freeUpd (freeUpd (freeUpd na))))
  exact q a _ na0 (by walk_at "kp") upd_same (by walk_at "hp")
/-! ### Files.may_write -/
def sp_Files_may_write (K : PySem.W.Frag) : Sp := fun vs H Q E => ∃ (f : Addr) (ms : List Addr) (dv : V) (F : Fs), vs = [.ref f] ∧ FilesAt K ms H f dv F ∧ Out K H Q E (if dv = .non then .error "ReadOnly" else .ok .non)
def t_Files_may_write (K : PySem.W.Frag) (W : WX) : TS := uIfS (uTest (uOp rIsN (uFld K (tVar 0) "disk") (uC .non))) (uRaiseW W (He.ga K "ReadOnly")) uNext
theorem pure_Files_may_write {K : PySem.W.Frag} (T : PxFiles K) {vs : List V} {H : Hp} {Q : VK} {E : XK} (h : sp_Files_may_write K vs H Q E) : t_Files_may_write K (WE1 E) (fin Q) (start ["self"] vs) H := by
  obtain ⟨f, ms, dv, F, rfl, ⟨dx, st, kp, us, h1, h2, h3, h4⟩, q⟩ := h
  show t_Files_may_write K _ (fin Q) [some (.ref f)] H
  unfold t_Files_may_write
  walk_at "go"
  refine x_if (fun h => ?_) (fun h => ?_)
  · walk_at "go"
    exact q.err (if_pos (of_decide_eq_true h)) (Same.refl H)
  · walk_at "go"
    exact q.ok (if_neg (of_decide_eq_false h)) (Same.refl H)
/-! ### Files.file_at, find, place_for -/
def fileAt (S : St) (n : Int) : Except Str Th := match lk S n with
  | none => .error "NoThing"
  | some t => if t.dir = true then .error "WrongKind" else .ok t
def sp_Files_file_at (K : PySem.W.Frag) : Sp := fun vs H Q E => ∃ (f : Addr) (ms : List Addr) (dv : V) (F : Fs) (n : Int), vs = [.ref f, .int n] ∧ FilesAt K ms H f dv F ∧
  (∀ x, fileAt F.S n = .error x → ∀ H', Same H H' → Exn K E x H') ∧ (∀ t, fileAt F.S n = .ok t → ∀ v H', Same H H' → ThAt K (av ms H) v t → Q v H')
def t_Files_file_at (K : PySem.W.Frag) (W : WX) : TS := uSeq (uIfS (uTest (uDNotIn (tVar 1) (uFld K (tVar 0) "state"))) (uRaiseW W (He.ga K "NoThing")) uNext)
    (uSeq (uIfS (uTest (uOp rNe (uFld K (uDGet (uFld K (tVar 0) "state") (tVar 1)) "kind") (uC (.str "file")))) (uRaiseW W (He.ga K "WrongKind")) uNext)
    (uRet (uDGet (uFld K (tVar 0) "state") (tVar 1))))
theorem kind_file (b : Bool) : decide (kindS b = "file") = !b := by cases b <;> rfl
theorem pure_Files_file_at {K : PySem.W.Frag} (TT : PxThing K) (T : PxFiles K) {vs : List V} {H : Hp} {Q : VK} {E : XK} (h : sp_Files_file_at K vs H Q E) : t_Files_file_at K (WE1 E) (fin Q) (start ["self", "number"] vs) H := by
  obtain ⟨f, ms, dv, F, n, rfl, ⟨dx, st, kp, us, h1, h2, h3, h4⟩, qe, qo⟩ := h
  have av := av_same ms H
  obtain ⟨kvs, ha, hin⟩ := state_in (n := n) h2
  show t_Files_file_at K _ (fin Q) [some (.ref f), some (.int n)] H
  unfold t_Files_file_at
  walk_at "go"
  refine x_dni (.inl (av _ _ ha)) (k := Sum.inl n) rfl hin ?_
  walk_at "go"
  cases e : lk F.S n with
  | none =>
    refine x_ifT rfl ?_
    walk_at "go"
    exact qe _ (by unfold fileAt; rw [e]) H (Same.refl H)
  | some t =>
    refine x_ifF rfl ?_
    walk_at "go"
    obtain ⟨kvs', v, ha', hv, th⟩ := state_get h2 e
    obtain ⟨el, p, dx2, hl, rfl, g1, g2, g3⟩ := id th
    have k1 := av _ _ g1
    refine x_dget (.inl (av _ _ ha')) (k := Sum.inl n) rfl hv ?_
    walk_at "go"
    rw [kind_file]
    cases hd : t.dir with
    | true =>
      refine x_ifT rfl ?_
      walk_at "go"
      exact qe _ (by unfold fileAt; rw [e]; exact if_pos hd) H (Same.refl H)
    | false =>
      refine x_ifF rfl ?_
      walk_at "go"
      refine x_dget (.inl (av _ _ ha')) (k := Sum.inl n) rfl hv ?_
      exact qo t (by unfold fileAt; rw [e]; exact if_neg (by rw [hd]; decide)) _ H (Same.refl H) th
def findF (S : St) (p : Str) : Except Str Int := match partsOf p with
  | none => .error "BadName"
  | some ns => walkedF S 0 ns
def sp_Files_find (K : PySem.W.Frag) : Sp := fun vs H Q E => ∃ (f : Addr) (ms : List Addr) (dv : V) (F : Fs) (p : Str), vs = [.ref f, .str p] ∧ FilesAt K ms H f dv F ∧ Clo F.S ∧ p.length ≤ 100000 ∧ Out K H Q E (vI (findF F.S p))
def t_Files_find (K : PySem.W.Frag) (W : WX) : TS := uRet (uCallW (sp_walked K) W (uCons (uFld K (tVar 0) "state") (uCons (uCallW (sp_parts K) W (uCons (tVar 1) uNil)) uNil)))
theorem pure_Files_find {K : PySem.W.Frag} (T : PxFiles K) {vs : List V} {H : Hp} {Q : VK} {E : XK} (h : sp_Files_find K vs H Q E) : t_Files_find K (WE1 E) (fin Q) (start ["self", "path"] vs) H := by
  obtain ⟨f, ms, dv, F, p, rfl, ⟨dx, st, kp, us, h1, h2, h3, h4⟩, c, hp, q⟩ := h
  have av := av_same ms H
  show t_Files_find K _ (fin Q) [some (.ref f), some (.str p)] H
  unfold t_Files_find
  walk_at "go"
  refine ⟨p, rfl, hp, fun ns en a H1 na ha s1 => ?_, fun en H1 s1 => ?_⟩
  · walk_at "go"
    refine ⟨st, a, F.S, ns, rfl, (h2.same av).same s1, c, ha, ?_⟩
    cases e : walkedF F.S 0 ns with
    | ok i =>
      intro H2 s2
      exact q.ok (by unfold findF; rw [en]; show vI (walkedF _ _ _) = _; rw [e]; rfl) (s1.trans s2)
    | error x =>
      intro H2 s2
      exact q.err (by unfold findF; rw [en]; show vI (walkedF _ _ _) = _; rw [e]; rfl) (s1.trans s2)
  · exact q.err (by unfold findF; rw [en]; rfl) s1
/-! ### Files.place_for, become -/
def placeFor (S : St) (ns : List Str) : Except Str Int := if ns = [] then .error "IsThere" else match placeOf S ns with
  | .error x => .error x
  | .ok n => (match lk S n with
    | none => .error ""
    | some t => if (lk t.ents (ns.getLast?.getD "")).isSome = true then .error "IsThere" else .ok n)
def sp_Files_place_for (K : PySem.W.Frag) : Sp := fun vs H Q E => ∃ (f b : Addr) (ms : List Addr) (dv : V) (F : Fs) (ns : List Str), vs = [.ref f, .ref b] ∧ FilesAt K ms H f dv F ∧ Clo F.S ∧ H b = some (.lst (ns.map V.str)) ∧ (∀ z ∈ ns, PyData.strOk z = true) ∧ Out K H Q E (vI (placeFor F.S ns))
def t_Files_place_for (K : PySem.W.Frag) (W : WX) : TS := uSeq (uIfS (uTest (uOp (rEqD K) (tVar 1) (uLst uNil))) (uRaiseW W (He.ga K "IsThere")) uNext)
    (uSeq (uAsg (uCallW (sp_place_of K) W (uCons (uFld K (tVar 0) "state") (uCons (tVar 1) uNil))) (vName 2))
    (uSeq (uIfS (uTest (uDIn (uOp (rIxL K) (tVar 1) (uUn rNegI (uC (.int 1)))) (uFld K (uDGet (uFld K (tVar 0) "state") (tVar 2)) "entries"))) (uRaiseW W (He.ga K "IsThere")) uNext)
    (uRet (tVar 2))))
theorem placeOf_in {S : St} (c : Clo S) {ns : List Str} {n : Int} (h : placeOf S ns = .ok n) : ∃ t, lk S n = some t ∧ t.dir = true := by
  unfold placeOf at h
  split at h
  · split at h
    · rename_i m e t et
      split at h
      · rename_i hd
        cases h
        exact ⟨t, et, hd⟩
      · cases h
    · cases h
  · cases h
theorem dpAll_strs {K : PySem.W.Frag} {H : Hp} : ∀ ns : List Str, DpAll K H (ns.map V.str) (ns.map PyData.str)
  | [] => .nil
  | n :: r => .cons (.str n) (dpAll_strs r)
theorem eqv_nil (ns : List Str) : PyData.eqv (.list (ns.map PyData.str)) (.list []) = decide (ns = []) := by
  cases ns with
  | nil => simp [PyData.eqv, PyData.eqvAll]
  | cons x r => simp [PyData.eqv, PyData.eqvAll]
theorem pure_Files_place_for {K : PySem.W.Frag} (TT : PxThing K) (T : PxFiles K) {vs : List V} {H : Hp} {Q : VK} {E : XK} (h : sp_Files_place_for K vs H Q E) : t_Files_place_for K (WE1 E) (fin Q) (start ["self", "names", "place"] vs) H := by
  obtain ⟨f, b, ms, dv, F, ns, rfl, ⟨dx, st, kp, us, h1, h2, h3, h4⟩, c, hb, hok, q⟩ := h
  have av := av_same ms H
  show t_Files_place_for K _ (fin Q) [some (.ref f), some (.ref b), none] H
  unfold t_Files_place_for
  walk_at "go"
  refine x_lst fun l H1 nl hl s1 => ?_
  have sh : Shp 1 (.list (ns.map PyData.str)) := Shp.list (n := 0) fun x hx => by
    obtain ⟨z, hz, rfl⟩ := List.mem_map.mp hx
    exact ⟨by simp [PyData.canLay0, hok z hz], by simp [PyData.depth]⟩
  refine x_eqD (.lst (SqL.of (s1 _ _ hb)) (dpAll_strs ns)) (.lst (SqL.of hl) .nil) (sh.ok (by decide)) rfl ?_
  rw [eqv_nil]
  walk_at "go"
  by_cases e0 : ns = []
  · refine x_ifT (decide_eq_true e0) ?_
    walk_at "go"
    exact q.err (by unfold placeFor; rw [if_pos e0]; rfl) s1
  refine x_ifF (decide_eq_false e0) ?_
  have g1 := s1 _ _ h1
  walk_at "go"
  refine ⟨st, b, F.S, ns, rfl, (h2.same av).same s1, c, s1 _ _ hb, ?_⟩
  cases ep : placeOf F.S ns with
  | error x =>
    intro H2 s2
    exact q.err (by unfold placeFor; rw [if_neg e0, ep]; rfl) (s1.trans s2)
  | ok n =>
    intro H2 s2
    have s12 := s1.trans s2
    obtain ⟨t, et, hd⟩ := placeOf_in c ep
    obtain ⟨kvs, v, ha, hv, el, p, dx2, hl2, rfl, k1, k2, k3⟩ := state_get ((h2.same av).same s12) et
    have g2 := s12 _ _ h1
    walk_at "go"
    have hlast : atI (ns.map V.str) (-1) = some (.str (ns.getLast?.getD "")) := by
      have hp : 0 < ns.length := List.length_pos_iff.mpr e0
      have hx : ixN (ns.map V.str).length (-1) = some (ns.length - 1) := by
        unfold ixN
        rw [if_neg (by decide), List.length_map, if_pos (by omega)]
        congr 1
        omega
      unfold atI
      rw [hx]
      show (ns.map V.str)[ns.length - 1]? = _
      rw [List.getElem?_map, ← List.getLast?_eq_getElem?]
      cases hg : ns.getLast? with
      | none => exact absurd (List.getLast?_eq_none_iff.mp hg) e0
      | some z => rfl
    refine x_ixL (SqL.of (s12 _ _ hb)) hlast ?_
    walk_at "go"
    refine x_dget (.inl ha) (k := Sum.inl n) rfl hv ?_
    walk_at "go"
    refine x_din (.inl k3) (k := Sum.inr (ns.getLast?.getD "")) rfl (b := (lk t.ents (ns.getLast?.getD "")).isSome) (by rw [ek_get, Option.isSome_map]) ?_
    walk_at "go"
    cases hz : (lk t.ents (ns.getLast?.getD "")).isSome with
    | true =>
      refine x_ifT rfl ?_
      walk_at "go"
      exact q.err (by unfold placeFor; rw [if_neg e0, ep]; show vI (match lk F.S n with | none => _ | some t => _) = _; rw [et]; show vI (if _ then _ else _) = _; rw [if_pos hz]; rfl) s12
    | false =>
      refine x_ifF rfl ?_
      walk_at "go"
      exact q.ok (by unfold placeFor; rw [if_neg e0, ep]; show vI (match lk F.S n with | none => _ | some t => _) = _; rw [et]; show vI (if _ then _ else _) = _; rw [if_neg (by rw [hz]; decide)]; rfl) s12
end SP

set_option Elab.async false
set_option linter.all false
set_option maxRecDepth 100000
set_option maxHeartbeats 4000000
/-! Files: become, make. -/
namespace SP
open PySem PySem.Spec PyProof.Rows L2
local macro_rules | `(tactic| walk_at "hp") => `(tactic| first
  | assumption
  | exact upd_same
  | (refine' sameAt ?sA ?hA; (case sA => assumption); (case hA => walk_at "hp"))
  | (refine' Eq.trans (upd_ne ?nA) ?hA; (case nA => walk_at "ne"); (case hA => walk_at "hp")))
local macro_rules | `(tactic| walk_at "ne") => `(tactic| first
  | assumption
  | (refine' Ne.symm ?hA; assumption)
  | (refine' ne_of_none (H := _) ?hA (by assumption); walk_at "hp")
  | (refine' Ne.symm (ne_of_none (H := _) ?hA (by assumption)); walk_at "hp")
  | (refine' ne_of ?hA ?hB ?hC; (case hA => assumption); (case hB => walk_at "hp"); (case hC => (intro z; cases z))))
local macro_rules | `(tactic| walk_at "sm") => `(tactic| first
  | exact Same.refl _
  | assumption
  | (refine' sameTr ?sA ?sB; (case sA => assumption); (case sB => walk_at "sm")))
local macro_rules | `(tactic| walk_at "dm") => `(tactic| first
  | exact dmRefl
  | assumption
  | (refine' dmUpd ?dA; (case dA => walk_at "dm"))
  | (refine' dmSame ?sA ?dA; (case sA => assumption); (case dA => walk_at "dm")))
local macro_rules | `(tactic| walk_at "fr") => `(tactic| first
  | assumption
  | (refine' dmAt ?dA ?hA; (case hA => assumption); (case dA => walk_at "dm")))
local macro_rules | `(tactic| walk_at "ab") => `(tactic| (exfalso; refine absurd ?hA (noneSome ?hB); (case hB => walk_at "hp"); (case hA => assumption)))
local macro_rules | `(tactic| walk_at "kp") => `(tactic| first
  | exact Keep.refl
  | assumption
  | (refine' Keep.trans ?kA (keepUpd ?kB ?kC ?kD); (case kB => simp); (case kC => walk_at "hp"); (case kD => (intro xs z; cases z)); (case kA => walk_at "kp"))
  | (refine' keepTr ?kB ?kA; (case kB => assumption); (case kA => walk_at "kp"))
  | (refine' keepSm ?kB ?kA; (case kB => assumption); (case kA => walk_at "kp")))
local macro_rules | `(tactic| walk_at "get") => `(tactic| first
  | (refine' x_get_Files_state ?T ?h ?_) | (refine' x_get_Thing_kind ?T ?h ?_) | (refine' x_get_Thing_entries ?T ?h ?_) | (refine' x_get_Thing_held ?T ?h ?_)
  | (refine' x_get_Files_disk ?T ?h ?_) | (refine' x_get_Files_kept ?T ?h ?_) | (refine' x_get_Files_used ?T ?h ?_)
  | (refine' x_get_Disk_blocks ?T ?h ?_) | (refine' x_get_Disk_log ?T ?h ?_)
  | (refine' x_get_Reader_row ?T ?h ?_) | (refine' x_get_Reader_at ?T ?h ?_) | (refine' x_get_Reader_good ?T ?h ?_)
  | (refine' x_get_Files_slot ?T ?h ?_) | (refine' x_get_Files_turn ?T ?h ?_) | (refine' x_get_Files_is_new ?T ?h ?_))
local macro_rules | `(tactic| walk_at "set") => `(tactic| first
  | ((with_reducible refine' x_set_Disk_blocks ?T ?h ?_); (case T => assumption); (case h => walk_at "hp"))
  | ((with_reducible refine' i_set_Disk_blocks ?T ?h ?_); (case T => assumption); (case h => walk_at "hp"))
  | ((with_reducible refine' x_set_Disk_log ?T ?h ?_); (case T => assumption); (case h => walk_at "hp"))
  | ((with_reducible refine' i_set_Disk_log ?T ?h ?_); (case T => assumption); (case h => walk_at "hp"))
  | ((with_reducible refine' x_set_Thing_kind ?T ?h ?_); (case T => assumption); (case h => walk_at "hp"))
  | ((with_reducible refine' i_set_Thing_kind ?T ?h ?_); (case T => assumption); (case h => walk_at "hp"))
  | ((with_reducible refine' x_set_Thing_held ?T ?h ?_); (case T => assumption); (case h => walk_at "hp"))
  | ((with_reducible refine' i_set_Thing_held ?T ?h ?_); (case T => assumption); (case h => walk_at "hp"))
  | ((with_reducible refine' x_set_Thing_entries ?T ?h ?_); (case T => assumption); (case h => walk_at "hp"))
  | ((with_reducible refine' i_set_Thing_entries ?T ?h ?_); (case T => assumption); (case h => walk_at "hp"))
  | ((with_reducible refine' x_set_Reader_row ?T ?h ?_); (case T => assumption); (case h => walk_at "hp"))
  | ((with_reducible refine' i_set_Reader_row ?T ?h ?_); (case T => assumption); (case h => walk_at "hp"))
  | ((with_reducible refine' x_set_Reader_at ?T ?h ?_); (case T => assumption); (case h => walk_at "hp"))
  | ((with_reducible refine' i_set_Reader_at ?T ?h ?_); (case T => assumption); (case h => walk_at "hp"))
  | ((with_reducible refine' x_set_Reader_good ?T ?h ?_); (case T => assumption); (case h => walk_at "hp"))
  | ((with_reducible refine' i_set_Reader_good ?T ?h ?_); (case T => assumption); (case h => walk_at "hp"))
  | ((with_reducible refine' x_set_Files_disk ?T ?h ?_); (case T => assumption); (case h => walk_at "hp"))
  | ((with_reducible refine' i_set_Files_disk ?T ?h ?_); (case T => assumption); (case h => walk_at "hp"))
  | ((with_reducible refine' x_set_Files_state ?T ?h ?_); (case T => assumption); (case h => walk_at "hp"))
  | ((with_reducible refine' i_set_Files_state ?T ?h ?_); (case T => assumption); (case h => walk_at "hp"))
  | ((with_reducible refine' x_set_Files_kept ?T ?h ?_); (case T => assumption); (case h => walk_at "hp"))
  | ((with_reducible refine' i_set_Files_kept ?T ?h ?_); (case T => assumption); (case h => walk_at "hp"))
  | ((with_reducible refine' x_set_Files_slot ?T ?h ?_); (case T => assumption); (case h => walk_at "hp"))
  | ((with_reducible refine' i_set_Files_slot ?T ?h ?_); (case T => assumption); (case h => walk_at "hp"))
  | ((with_reducible refine' x_set_Files_turn ?T ?h ?_); (case T => assumption); (case h => walk_at "hp"))
  | ((with_reducible refine' i_set_Files_turn ?T ?h ?_); (case T => assumption); (case h => walk_at "hp"))
  | ((with_reducible refine' x_set_Files_used ?T ?h ?_); (case T => assumption); (case h => walk_at "hp"))
  | ((with_reducible refine' i_set_Files_used ?T ?h ?_); (case T => assumption); (case h => walk_at "hp"))
  | ((with_reducible refine' x_set_Files_is_new ?T ?h ?_); (case T => assumption); (case h => walk_at "hp"))
  | ((with_reducible refine' i_set_Files_is_new ?T ?h ?_); (case T => assumption); (case h => walk_at "hp")))
local macro_rules | `(tactic| walk_at "go1") => `(tactic| first
  | ((with_reducible refine w_var (v := ?vv) ?e ?_); (case e => rfl))
  | ((with_reducible walk_at "get"); (case T => assumption); (case h => walk_at "hp"))
  | (with_reducible refine x_bl ?_)
  | (with_reducible refine x_isN ?_) | (with_reducible refine x_notN ?_) | (with_reducible refine x_eqI ?_) | (with_reducible refine x_neI ?_) | (with_reducible refine x_eqS ?_) | (with_reducible refine x_neS ?_)
  | (with_reducible refine x_addI ?_) | (with_reducible refine x_subI ?_) | (with_reducible refine x_ltI ?_) | (with_reducible refine x_leI ?_) | (with_reducible refine x_gtI ?_) | (with_reducible refine x_geI ?_)
  | (with_reducible refine x_bv ?_) | (with_reducible refine x_part ?_) | (with_reducible refine x_neg ?_) | (with_reducible refine x_inS ?_)
  | (walk_at "set")
  | ((with_reducible refine' x_bmL ?h ?_); (case h => walk_at "hp")) | ((with_reducible refine' x_bmL0 ?h ?_); (case h => walk_at "hp")))
local macro_rules | `(tactic| walk_at "go") => `(tactic| ((try with_reducible (conv => whnf)); repeat ((walk_at "go1"); (try with_reducible (conv => whnf)))))
/-- is there room for a state, its snapshots and what is in use -/
def roomOk (S : St) (L : Sn) (used : List Int) (count : Nat) : Prop := manyBlocks (imgB S L).length + (used.length : Int) + 2 ≤ (count : Int)
instance (S : St) (L : Sn) (used : List Int) (count : Nat) : Decidable (roomOk S L used count) := by unfold roomOk; infer_instance
def sp_Files_become (K : PySem.W.Frag) : Sp := fun vs H Q E => ∃ (f d bl lg s kp : Addr) (ms : List Addr) (F : Fs) (B : List (Option (List Int))) (Lg : List Ent) (S : St) (L : Sn), vs = [.ref f, .ref s, .ref kp] ∧ f ∈ ms ∧ FilesAt K ms H f (.ref d) F ∧ DiskAt K H d bl lg B Lg ∧
  StateAt K (av ms H) s S ∧ SnapsAt K (av ms H) kp L ∧ Ws S ∧ Wn L ∧
  (¬ roomOk S L F.used B.length → ∀ H', Same H H' → Exn K E "NoRoom" H') ∧ (roomOk S L F.used B.length → ∀ H', Keep [f] H H' → FilesAt K ms H' f (.ref d) { F with S := S, L := L, new := true } → Q .non H')
def t_Files_become (K : PySem.W.Frag) (W : WX) : TS := uSeq (uIfS (uTest (uOp rGtI (uOp rAddI (uOp rAddI (uCallW (sp_many_blocks K) W (uCons (uCallW (sp_image K) W (uCons (tVar 1) (uCons (tVar 2) uNil))) uNil)) (uCB (cLenQ K) (uCons (uFld K (tVar 0) "used") uNil))) (uC (.int 2))) (uCB (cLenQ K) (uCons (uFld K (uFld K (tVar 0) "disk") "blocks") uNil)))) (uRaiseW W (He.ga K "NoRoom")) uNext)
    (uSeq (uFldS K (tVar 0) (tVar 1) "state")
    (uSeq (uFldS K (tVar 0) (tVar 2) "kept")
    (uFldS K (tVar 0) (uC (.bl true)) "is_new")))
theorem pure_Files_become {K : PySem.W.Frag} (TD : PxDisk K) (T : PxFiles K) {vs : List V} {H : Hp} {Q : VK} {E : XK} (h : sp_Files_become K vs H Q E) : t_Files_become K (WE1 E) (fin Q) (start ["self", "state", "snaps"] vs) H := by
  obtain ⟨f, d, bl, lg, s, kp, ms, F, B, Lg, S, L, rfl, fm, FA, D, hS, hL, w, wn, qe, qo⟩ := h
  obtain ⟨dx, s0, kp0, us, h1, h2, h3, h4⟩ := id FA.o
  obtain ⟨⟨ex, ho⟩, ⟨ws, hb, pb⟩, hlg, ne⟩ := id D
  have av := av_same ms H
  show t_Files_become K _ (fin Q) [some (.ref f), some (.ref s), some (.ref kp)] H
  unfold t_Files_become
  walk_at "go"
  refine ⟨s, kp, S, L, rfl, hS.same av, hL.same av, w, wn, fun r H1 nr hr s1 => ?_⟩
  walk_at "go"
  refine ⟨r, _, rfl, hr, fun H2 s2 => ?_⟩
  rw [List.length_map]
  have s12 := s1.trans s2
  have g1 := s12 _ _ h1
  have g4 := s12 _ _ (av _ _ h4)
  have gd := s12 _ _ ho
  have gb := s12 _ _ hb
  walk_at "go"
  refine x_lenL g4 ?_
  rw [List.length_map]
  walk_at "go"
  refine x_lenL gb ?_
  walk_at "go"
  have lw : (ws.length : Int) = (B.length : Int) := by rw [Paired.len pb]
  by_cases c : roomOk S L F.used B.length
  · refine x_ifF (decide_eq_false (by rw [lw]; unfold roomOk at c; omega)) ?_
    walk_at "go"
    have k2 : Keep [f] H2 (upd H2 f (oFiles K dx (.ref d) (.ref s) (.ref kp) (.int F.slot) (.int F.turn) (.ref us) (.bl true))) := keepUpd (by simp) g1 (fun xs z => by cases z)
    have e3 : ∀ a b c' : HO, upd (upd (upd H2 f a) f b) f c' = upd H2 f c' := fun a b c' => by
      funext x
      by_cases z : x = f
      · rw [z, upd_same, upd_same]
      · rw [upd_ne z, upd_ne z, upd_ne z, upd_ne z]
    rw [e3]
    refine qo c _ (keep_pre s12 k2) ⟨⟨dx, s, kp, us, upd_same, ?_, ?_, ?_⟩⟩
    · exact (hS.same (same_avs s12)).same (keep_av k2 (fun a ha => by rw [List.mem_singleton.mp ha]; exact fm))
    · exact (hL.same (same_avs s12)).same (keep_av k2 (fun a ha => by rw [List.mem_singleton.mp ha]; exact fm))
    · exact (keep_av k2 (fun a ha => by rw [List.mem_singleton.mp ha]; exact fm)) _ _ (same_avs s12 _ _ h4)
  · refine x_ifT (decide_eq_true (by rw [lw]; unfold roomOk at c; omega)) ?_
    walk_at "go"
    exact qe c H2 s12
end SP

set_option Elab.async false
set_option linter.all false
set_option maxRecDepth 100000
set_option maxHeartbeats 4000000
/-! Files.make. -/
namespace SP
open PySem PySem.Spec PyProof.Rows L2
local macro_rules | `(tactic| walk_at "hp") => `(tactic| first
  | assumption
  | exact upd_same
  | (refine' sameAt ?sA ?hA; (case sA => assumption); (case hA => walk_at "hp"))
  | (refine' Eq.trans (upd_ne ?nA) ?hA; (case nA => walk_at "ne"); (case hA => walk_at "hp")))
local macro_rules | `(tactic| walk_at "ne") => `(tactic| first
  | assumption
  | (refine' Ne.symm ?hA; assumption)
  | (refine' ne_of_none (H := _) ?hA (by assumption); walk_at "hp")
  | (refine' Ne.symm (ne_of_none (H := _) ?hA (by assumption)); walk_at "hp")
  | (refine' ne_of ?hA ?hB ?hC; (case hA => assumption); (case hB => walk_at "hp"); (case hC => (intro z; cases z))))
local macro_rules | `(tactic| walk_at "sm") => `(tactic| first
  | exact Same.refl _
  | assumption
  | (refine' sameTr ?sA ?sB; (case sA => assumption); (case sB => walk_at "sm")))
local macro_rules | `(tactic| walk_at "dm") => `(tactic| first
  | exact dmRefl
  | assumption
  | (refine' dmUpd ?dA; (case dA => walk_at "dm"))
  | (refine' dmSame ?sA ?dA; (case sA => assumption); (case dA => walk_at "dm")))
local macro_rules | `(tactic| walk_at "fr") => `(tactic| first
  | assumption
  | (refine' dmAt ?dA ?hA; (case hA => assumption); (case dA => walk_at "dm")))
local macro_rules | `(tactic| walk_at "ab") => `(tactic| (exfalso; refine absurd ?hA (noneSome ?hB); (case hB => walk_at "hp"); (case hA => assumption)))
local macro_rules | `(tactic| walk_at "kp") => `(tactic| first
  | exact Keep.refl
  | assumption
  | (refine' Keep.trans ?kA (keepUpd ?kB ?kC ?kD); (case kB => simp); (case kC => walk_at "hp"); (case kD => (intro xs z; cases z)); (case kA => walk_at "kp"))
  | (refine' keepTr ?kB ?kA; (case kB => assumption); (case kA => walk_at "kp"))
  | (refine' keepSm ?kB ?kA; (case kB => assumption); (case kA => walk_at "kp")))
local macro_rules | `(tactic| walk_at "get") => `(tactic| first
  | (refine' x_get_Files_state ?T ?h ?_) | (refine' x_get_Thing_kind ?T ?h ?_) | (refine' x_get_Thing_entries ?T ?h ?_) | (refine' x_get_Thing_held ?T ?h ?_)
  | (refine' x_get_Files_disk ?T ?h ?_) | (refine' x_get_Files_kept ?T ?h ?_) | (refine' x_get_Files_used ?T ?h ?_)
  | (refine' x_get_Disk_blocks ?T ?h ?_) | (refine' x_get_Disk_log ?T ?h ?_)
  | (refine' x_get_Reader_row ?T ?h ?_) | (refine' x_get_Reader_at ?T ?h ?_) | (refine' x_get_Reader_good ?T ?h ?_)
  | (refine' x_get_Files_slot ?T ?h ?_) | (refine' x_get_Files_turn ?T ?h ?_) | (refine' x_get_Files_is_new ?T ?h ?_))
local macro_rules | `(tactic| walk_at "set") => `(tactic| first
  | ((with_reducible refine' x_set_Disk_blocks ?T ?h ?_); (case T => assumption); (case h => walk_at "hp"))
  | ((with_reducible refine' i_set_Disk_blocks ?T ?h ?_); (case T => assumption); (case h => walk_at "hp"))
  | ((with_reducible refine' x_set_Disk_log ?T ?h ?_); (case T => assumption); (case h => walk_at "hp"))
  | ((with_reducible refine' i_set_Disk_log ?T ?h ?_); (case T => assumption); (case h => walk_at "hp"))
  | ((with_reducible refine' x_set_Thing_kind ?T ?h ?_); (case T => assumption); (case h => walk_at "hp"))
  | ((with_reducible refine' i_set_Thing_kind ?T ?h ?_); (case T => assumption); (case h => walk_at "hp"))
  | ((with_reducible refine' x_set_Thing_held ?T ?h ?_); (case T => assumption); (case h => walk_at "hp"))
  | ((with_reducible refine' i_set_Thing_held ?T ?h ?_); (case T => assumption); (case h => walk_at "hp"))
  | ((with_reducible refine' x_set_Thing_entries ?T ?h ?_); (case T => assumption); (case h => walk_at "hp"))
  | ((with_reducible refine' i_set_Thing_entries ?T ?h ?_); (case T => assumption); (case h => walk_at "hp"))
  | ((with_reducible refine' x_set_Reader_row ?T ?h ?_); (case T => assumption); (case h => walk_at "hp"))
  | ((with_reducible refine' i_set_Reader_row ?T ?h ?_); (case T => assumption); (case h => walk_at "hp"))
  | ((with_reducible refine' x_set_Reader_at ?T ?h ?_); (case T => assumption); (case h => walk_at "hp"))
  | ((with_reducible refine' i_set_Reader_at ?T ?h ?_); (case T => assumption); (case h => walk_at "hp"))
  | ((with_reducible refine' x_set_Reader_good ?T ?h ?_); (case T => assumption); (case h => walk_at "hp"))
  | ((with_reducible refine' i_set_Reader_good ?T ?h ?_); (case T => assumption); (case h => walk_at "hp"))
  | ((with_reducible refine' x_set_Files_disk ?T ?h ?_); (case T => assumption); (case h => walk_at "hp"))
  | ((with_reducible refine' i_set_Files_disk ?T ?h ?_); (case T => assumption); (case h => walk_at "hp"))
  | ((with_reducible refine' x_set_Files_state ?T ?h ?_); (case T => assumption); (case h => walk_at "hp"))
  | ((with_reducible refine' i_set_Files_state ?T ?h ?_); (case T => assumption); (case h => walk_at "hp"))
  | ((with_reducible refine' x_set_Files_kept ?T ?h ?_); (case T => assumption); (case h => walk_at "hp"))
  | ((with_reducible refine' i_set_Files_kept ?T ?h ?_); (case T => assumption); (case h => walk_at "hp"))
  | ((with_reducible refine' x_set_Files_slot ?T ?h ?_); (case T => assumption); (case h => walk_at "hp"))
  | ((with_reducible refine' i_set_Files_slot ?T ?h ?_); (case T => assumption); (case h => walk_at "hp"))
  | ((with_reducible refine' x_set_Files_turn ?T ?h ?_); (case T => assumption); (case h => walk_at "hp"))
  | ((with_reducible refine' i_set_Files_turn ?T ?h ?_); (case T => assumption); (case h => walk_at "hp"))
  | ((with_reducible refine' x_set_Files_used ?T ?h ?_); (case T => assumption); (case h => walk_at "hp"))
  | ((with_reducible refine' i_set_Files_used ?T ?h ?_); (case T => assumption); (case h => walk_at "hp"))
  | ((with_reducible refine' x_set_Files_is_new ?T ?h ?_); (case T => assumption); (case h => walk_at "hp"))
  | ((with_reducible refine' i_set_Files_is_new ?T ?h ?_); (case T => assumption); (case h => walk_at "hp")))
local macro_rules | `(tactic| walk_at "go1") => `(tactic| first
  | ((with_reducible refine w_var (v := ?vv) ?e ?_); (case e => rfl))
  | ((with_reducible walk_at "get"); (case T => assumption); (case h => walk_at "hp"))
  | (with_reducible refine x_bl ?_)
  | (with_reducible refine x_isN ?_) | (with_reducible refine x_notN ?_) | (with_reducible refine x_eqI ?_) | (with_reducible refine x_neI ?_) | (with_reducible refine x_eqS ?_) | (with_reducible refine x_neS ?_)
  | (with_reducible refine x_addI ?_) | (with_reducible refine x_subI ?_) | (with_reducible refine x_ltI ?_) | (with_reducible refine x_leI ?_) | (with_reducible refine x_gtI ?_) | (with_reducible refine x_geI ?_)
  | (with_reducible refine x_bv ?_) | (with_reducible refine x_part ?_) | (with_reducible refine x_neg ?_) | (with_reducible refine x_inS ?_)
  | (walk_at "set")
  | ((with_reducible refine' x_bmL ?h ?_); (case h => walk_at "hp")) | ((with_reducible refine' x_bmL0 ?h ?_); (case h => walk_at "hp")))
local macro_rules | `(tactic| walk_at "go") => `(tactic| ((try with_reducible (conv => whnf)); repeat ((walk_at "go1"); (try with_reducible (conv => whnf)))))
theorem nodup_le : ∀ {l m : List Int}, l.Nodup → (∀ x ∈ l, x ∈ m) → l.length ≤ m.length
  | [], _, _, _ => Nat.zero_le _
  | a :: l, m, nd, h => by
    obtain ⟨h1, h2⟩ := List.nodup_cons.mp nd
    have ha := h a List.mem_cons_self
    have ih := nodup_le (l := l) (m := m.erase a) h2 fun x hx => (List.mem_erase_of_ne (fun z => h1 (by rw [← z]; exact hx))).mpr (h x (List.mem_cons_of_mem _ hx))
    rw [List.length_erase_of_mem ha] at ih
    have := List.length_pos_of_mem ha
    rw [List.length_cons]
    omega
def leastFree (S : St) : Nat := ((List.range (S.length + 1)).find? fun n : Nat => (lk S (n : Int)).isNone).getD 0
theorem least_spec (S : St) : lk S ((leastFree S : Nat) : Int) = none ∧ ∀ m : Nat, m < leastFree S → (lk S (m : Int)).isSome = true := by
  unfold leastFree
  cases e : (List.range (S.length + 1)).find? fun n : Nat => (lk S (n : Int)).isNone with
  | none =>
    exfalso
    have h := List.find?_eq_none.mp e
    have hin : ∀ x ∈ (List.range (S.length + 1)).map fun n : Nat => (n : Int), x ∈ S.map (·.1) := fun x hx => by
      obtain ⟨n, hn, rfl⟩ := List.mem_map.mp hx
      have h1 := h n hn
      cases q : lk S (n : Int) with
      | none => rw [q] at h1; exact absurd rfl h1
      | some t => exact List.mem_map.mpr ⟨_, lk_mem q, rfl⟩
    have nd : ((List.range (S.length + 1)).map fun n : Nat => (n : Int)).Nodup := List.Pairwise.map _ (fun a b h z => h (by exact Int.ofNat.inj z)) List.nodup_range
    have := nodup_le nd hin
    rw [List.length_map, List.length_map, List.length_range] at this
    omega
  | some n =>
    show lk S (n : Int) = none ∧ _
    obtain ⟨h1, as, bs, h2, h3⟩ := List.find?_eq_some_iff_append.mp e
    refine ⟨Option.isNone_iff_eq_none.mp h1, fun m hm => ?_⟩
    have hm : m < n := hm
    have hn : n < S.length + 1 := by
      have : n ∈ List.range (S.length + 1) := by rw [h2]; simp
      exact List.mem_range.mp this
    have hl : as.length = n := by
      have g : (List.range (S.length + 1))[as.length]? = some n := by rw [h2]; simp
      have h5 : as.length < S.length + 1 := by
        have := (List.getElem?_eq_some_iff.mp g).1
        rwa [List.length_range] at this
      rw [List.getElem?_range h5] at g
      exact Option.some.inj g
    have g : as[m]? = some m := by
      have h6 : (List.range (S.length + 1))[m]? = some m := List.getElem?_range (by omega)
      rw [h2, List.getElem?_append_left (by omega)] at h6
      exact h6
    have := h3 m (List.mem_of_getElem? g)
    cases q : lk S (m : Int) with
    | none => rw [q] at this; exact absurd this (by decide)
    | some t => rfl
theorem name_ok {z : Str} (h : isName z = true) : PyData.strOk z = true ∧ z.length ≤ 8 := by
  unfold isName at h
  rw [Bool.and_eq_true, Bool.and_eq_true, Bool.and_eq_true] at h
  obtain ⟨⟨h1, h2⟩, h3, h4⟩ := h
  refine ⟨?_, by have := of_decide_eq_true h2; omega⟩
  have hs : ∀ c ∈ txt_SIGNS.cps.toList, c < 128 := by decide +kernel
  have h5 : ∀ c ∈ z.cps.toList, c < 128 := fun c hc => hs c (of_decide_eq_true (List.all_eq_true.mp h4 c hc))
  unfold PyData.strOk
  rw [← Array.all_toList]
  exact List.all_eq_true.mpr fun c hc => decide_eq_true (by have := h5 c hc; omega)
theorem parts_names {p : Str} {ns : List Str} (h : partsOf p = some ns) : ∀ z ∈ ns, isName z = true := by
  unfold partsOf at h
  split at h
  · cases h
    exact fun z hz => (nomatch hz)
  · split at h
    · cases h
    · split at h
      · rename_i ha
        cases h
        exact List.all_eq_true.mp ha
      · cases h
def lastOf (ns : List Str) : Str := ns.getLast?.getD ""
def makeS (S : St) (pl : Int) (n : Nat) (z : Str) (b : Bool) : St :=
  let S1 := pt S (n : Int) ⟨b, [], []⟩
  let t := (lk S1 pl).getD thD
  pt S1 pl { t with ents := pt t.ents z (n : Int) }
def makeF (F : Fs) (count : Nat) (p : Str) (b : Bool) : Except Str (St × Int) := match partsOf p with
  | none => .error "BadName"
  | some ns => match placeFor F.S ns with
    | .error x => .error x
    | .ok pl => if leastFree F.S = 32 ∨ ((lk F.S pl).getD thD).ents.length = 40 then .error "TooGreat"
      else if roomOk (makeS F.S pl (leastFree F.S) (lastOf ns) b) F.L F.used count then .ok (makeS F.S pl (leastFree F.S) (lastOf ns) b, (leastFree F.S : Int)) else .error "NoRoom"
/-- a state within tighter bounds -/
structure Wg (S : St) : Prop where
  kd : (S.map (·.1)).Nodup
  sl : S.length ≤ 40
  wt : ∀ x ∈ S, Wt x.2 ∧ x.2.ents.length ≤ 45
theorem Wg.ws {S : St} (w : Wg S) : Ws S := ⟨w.kd, by have := w.sl; omega, fun x hx => (w.wt x hx).1⟩
theorem pt_len_le {κ β : Type} [DecidableEq κ] (l : List (κ × β)) (k : κ) (v : β) : (pt l k v).length ≤ l.length + 1 := by
  cases e : lk l k with
  | none => rw [pt_len_new v e]; exact Nat.le_refl _
  | some u => rw [pt_len_old v e]; omega
theorem makeS_ws {S : St} {pl : Int} {n : Nat} {z : Str} {b : Bool} (w : Wg S) (hz : z.length ≤ 60) : Ws (makeS S pl n z b) := by
  have w1 : ∀ x ∈ pt S (n : Int) ⟨b, [], []⟩, Wt x.2 ∧ x.2.ents.length ≤ 45 := fun x hx => by
    rcases mem_pt hx with rfl | ⟨hx, _⟩
    · exact ⟨⟨List.nodup_nil, Nat.zero_le _, Nat.zero_le _, fun _ h => (nomatch h)⟩, Nat.zero_le _⟩
    · exact w.wt x hx
  have wt : Wt ((lk (pt S (n : Int) ⟨b, [], []⟩) pl).getD thD) ∧ ((lk (pt S (n : Int) ⟨b, [], []⟩) pl).getD thD).ents.length ≤ 45 := by
    cases e : lk (pt S (n : Int) ⟨b, [], []⟩) pl with
    | none => exact ⟨⟨List.nodup_nil, Nat.zero_le _, Nat.zero_le _, fun _ h => (nomatch h)⟩, Nat.zero_le _⟩
    | some t => exact w1 _ (lk_mem e)
  unfold makeS
  have h2 := pt_len_le S (n : Int) (⟨b, [], []⟩ : Th)
  have hsl := w.sl
  refine ⟨nd_pt _ (nd_pt _ w.kd), ?_, fun x hx => ?_⟩
  · refine Nat.le_trans (pt_len_le _ _ _) ?_
    omega
  · rcases mem_pt hx with rfl | ⟨hx, _⟩
    · refine ⟨nd_pt _ wt.1.kd, ?_, wt.1.hl, fun e he => ?_⟩
      · refine Nat.le_trans (pt_len_le _ _ _) ?_
        have := wt.2
        omega
      · rcases mem_pt he with rfl | ⟨he, _⟩
        · exact hz
        · exact wt.1.nl e he
    · exact (w1 x hx).1
theorem atI_last {ns : List Str} (e0 : ns ≠ []) : atI (ns.map V.str) (-1) = some (.str (lastOf ns)) := by
  have hp : 0 < ns.length := List.length_pos_iff.mpr e0
  have hx : ixN (ns.map V.str).length (-1) = some (ns.length - 1) := by
    unfold ixN
    rw [if_neg (by decide), List.length_map, if_pos (by omega)]
    congr 1
    omega
  unfold atI lastOf
  rw [hx]
  show (ns.map V.str)[ns.length - 1]? = _
  rw [List.getElem?_map, ← List.getLast?_eq_getElem?]
  cases hg : ns.getLast? with
  | none => exact absurd (List.getLast?_eq_none_iff.mp hg) e0
  | some z => rfl
def sp_Files_make (K : PySem.W.Frag) : Sp := fun vs H Q E => ∃ (f d bl lg : Addr) (ms : List Addr) (F : Fs) (B : List (Option (List Int))) (Lg : List Ent) (p : Str) (b : Bool), vs = [.ref f, .str p, .str (kindS b)] ∧ f ∈ ms ∧ (∀ a ∈ ms, (H a).isSome = true) ∧ FilesAt K ms H f (.ref d) F ∧ DiskAt K H d bl lg B Lg ∧
  Clo F.S ∧ Wg F.S ∧ Wn F.L ∧ p.length ≤ 100000 ∧ (∀ x, makeF F B.length p b = .error x → ∀ H', Same H H' → Exn K E x H') ∧
  (∀ S n, makeF F B.length p b = .ok (S, n) → ∀ H', Keep [f] H H' → FilesAt K ms H' f (.ref d) { F with S := S, new := true } → Q (.int n) H')
def t_Files_make (K : PySem.W.Frag) (W : WX) : TS := uSeq (uDrop (uMethW (He.ga K "Files") "may_write" (sp_Files_may_write K) W (tVar 0) uNil))
    (uSeq (uAsg (uCallW (sp_parts K) W (uCons (tVar 1) uNil)) (vName 3))
    (uSeq (uAsg (uMethW (He.ga K "Files") "place_for" (sp_Files_place_for K) W (tVar 0) (uCons (tVar 3) uNil)) (vName 4))
    (uSeq (uAsg (uCallW (sp_least_free K) W (uCons (uFld K (tVar 0) "state") uNil)) (vName 5))
    (uSeq (uIfS (uOr (uTest (uOp rEq (tVar 5) (uC (.int 32)))) (uTest (uOp rEq (uCB cLenD (uCons (uFld K (uDGet (uFld K (tVar 0) "state") (tVar 4)) "entries") uNil)) (uC (.int 40))))) (uRaiseW W (He.ga K "TooGreat")) uNext)
    (uSeq (uAsg (uCallW (sp_copied K) W (uCons (uFld K (tVar 0) "state") uNil)) (vName 6))
    (uSeq (uDPut (tVar 6) (tVar 5) (uMakeW (He.ga K "Thing") (sp_Thing___init__ K) W (uCons (tVar 2) (uCons (uLst uNil) (uCons tDNewK uNil)))))
    (uSeq (uDPut (uFld K (uDGet (tVar 6) (tVar 4)) "entries") (uOp (rIxL K) (tVar 3) (uUn rNegI (uC (.int 1)))) (tVar 5))
    (uSeq (uDrop (uMethW (He.ga K "Files") "become" (sp_Files_become K) W (tVar 0) (uCons (tVar 6) (uCons (uFld K (tVar 0) "kept") uNil))))
    (uRet (tVar 5))))))))))
theorem pure_Files_make {K : PySem.W.Frag} (TT : PxThing K) (T : PxFiles K) {vs : List V} {H : Hp} {Q : VK} {E : XK} (h : sp_Files_make K vs H Q E) : t_Files_make K (WE1 E) (fin Q) (start ["self", "path", "kind", "names", "place", "number", "state"] vs) H := by
  obtain ⟨f, d, bl, lg, ms, F, B, Lg, p, b, rfl, fm, mS, FA, D, c, w, wn, hp, qe, qo⟩ := h
  obtain ⟨dx, s0, kp0, us, h1, h2, h3, h4⟩ := id FA.o
  show t_Files_make K _ (fin Q) [some (.ref f), some (.str p), some (.str (kindS b)), none, none, none, none] H
  unfold t_Files_make
  walk_at "go"
  refine x_meth_Files_may_write h1 ?_
  walk_at "go"
  refine ⟨f, ms, .ref d, F, rfl, FA, ?_⟩
  rw [if_neg (by intro z; cases z)]
  intro H1 s1
  walk_at "go"
  refine ⟨p, rfl, hp, fun ns en a H2 na ha s2 => ?_, fun en H2 s2 => ?_⟩
  rotate_left
  · exact qe _ (by unfold makeF; rw [en]) _ (s1.trans s2)
  have s02 := s1.trans s2
  have hn := parts_names en
  walk_at "go"
  refine x_meth_Files_place_for (s02 _ _ h1) ?_
  walk_at "go"
  refine ⟨f, a, ms, .ref d, F, ns, rfl, FA.same s02, c, ha, fun z hz => (name_ok (hn z hz)).1, ?_⟩
  have emk : makeF F B.length p b = match placeFor F.S ns with
    | .error x => .error x
    | .ok pl => if leastFree F.S = 32 ∨ ((lk F.S pl).getD thD).ents.length = 40 then .error "TooGreat"
      else if roomOk (makeS F.S pl (leastFree F.S) (lastOf ns) b) F.L F.used B.length then .ok (makeS F.S pl (leastFree F.S) (lastOf ns) b, (leastFree F.S : Int)) else .error "NoRoom" := by
    unfold makeF
    rw [en]
  cases epl : placeFor F.S ns with
  | error x =>
    intro H3 s3
    exact qe _ (by rw [emk, epl]) _ (s02.trans s3)
  | ok pl =>
    intro H3 s3
    rw [epl] at emk
    have emk : makeF F B.length p b = if leastFree F.S = 32 ∨ ((lk F.S pl).getD thD).ents.length = 40 then .error "TooGreat"
      else if roomOk (makeS F.S pl (leastFree F.S) (lastOf ns) b) F.L F.used B.length then .ok (makeS F.S pl (leastFree F.S) (lastOf ns) b, (leastFree F.S : Int)) else .error "NoRoom" := emk
    have s03 := s02.trans s3
    obtain ⟨ln, lm⟩ := least_spec F.S
    generalize leastFree F.S = n at ln lm emk
    have g1 := s03 _ _ h1
    have avs := av_same ms H
    have hS3 := (h2.same avs).same s03
    walk_at "go"
    refine ⟨s0, F.S, n, rfl, hS3, ln, lm, fun H4 s4 => ?_⟩
    have s04 := s03.trans s4
    have g4 := s04 _ _ h1
    obtain ⟨t, et⟩ : ∃ t, lk F.S pl = some t := by
      unfold placeFor at epl
      split at epl
      · cases epl
      · split at epl
        · cases epl
        · split at epl
          · cases epl
          · rename_i n' e' t' et'
            split at epl
            · cases epl
            · cases epl
              exact ⟨t', et'⟩
    rw [et] at emk
    have emk : makeF F B.length p b = if n = 32 ∨ t.ents.length = 40 then .error "TooGreat"
      else if roomOk (makeS F.S pl n (lastOf ns) b) F.L F.used B.length then .ok (makeS F.S pl n (lastOf ns) b, (n : Int)) else .error "NoRoom" := emk
    obtain ⟨kvs, v, hk, hv, el, pp, dx2, hl, rfl, k1, k2, k3⟩ := state_get ((h2.same avs).same s04) et
    walk_at "go"
    by_cases e32 : n = 32
    · refine x_ifT (decide_eq_true (by omega)) ?_
      walk_at "go"
      refine x_ifT rfl ?_
      walk_at "go"
      exact qe _ (by rw [emk, if_pos (.inl e32)]) _ s04
    refine x_ifF (decide_eq_false (by omega)) ?_
    walk_at "go"
    refine x_dget (.inl hk) (k := Sum.inl pl) rfl hv ?_
    walk_at "go"
    refine x_lenD k3 ?_
    rw [ek_len]
    walk_at "go"
    by_cases e40 : t.ents.length = 40
    · refine x_ifT (decide_eq_true (by omega)) ?_
      walk_at "go"
      exact qe _ (by rw [emk, if_pos (.inr e40)]) _ s04
    refine x_ifF (decide_eq_false (by omega)) ?_
    walk_at "go"
    rw [if_neg (by rintro (z | z); exact e32 z; exact e40 z)] at emk
    refine ⟨s0, F.S, rfl, (h2.same avs).same s04, w.kd, by have := w.sl; omega, fun s X H5 eX O s5 => ?_⟩
    have s05 := s04.trans s5
    walk_at "go"
    refine x_lst fun l H6 nl hl6 s6 => ?_
    walk_at "go"
    refine w_dnew fun e H7 ne he s7 => ?_
    walk_at "go"
    refine x_mkThing (xs := []) (SqL.of (s7 _ _ hl6)) (.inl he) fun p2 dx3 a2 b2 H8 np2 na2 nb2 s8 hp2 ha2 hb2 => ?_
    walk_at "go"
    have s57 := s6.trans s7
    have s58 := s57.trans s8
    have O8 : OwnAt K (nw H4 H8) s X := O.same (nw_sameR (Same.refl H4) s58)
    obtain ⟨⟨kvs2, ek2, pk2⟩, _, _, _⟩ := id O8
    obtain ⟨fs4, fs8⟩ := nw_none ek2
    have lX : X.length = F.S.length := by
      have := congrArg List.length eX
      unfold er at this
      rw [List.length_map] at this
      exact this
    have fr : ∀ {z : Addr}, H7 z = none → H4 z = none := fun h => s5.free (s57.free h)
    refine x_dput fs8 (by rw [Paired.len pk2, lX]; have := w.sl; omega) (k := Sum.inl (n : Int)) rfl ?_
    have O9 : OwnAt K (nw H4 (upd H8 s (.dK (putK kvs2 (Sum.inl (n : Int)) (.ref p2))))) s (pt X (n : Int) (⟨b, [], []⟩, b2)) := by
      rw [nw_upd fs4]
      refine own_put O8 ek2 ⟨p2, dx3, a2, rfl, nw_new (fr np2) hp2, nw_new (fr na2) ha2, nw_new (fr nb2) hb2⟩ (fun z => ?_) (fun x hx z => ?_)
      · rw [z] at nb2
        obtain ⟨kv0, e0, _⟩ := O.at_
        have := s57 _ _ (nw_none e0).2
        rw [nb2] at this
        cases this
      · obtain ⟨⟨kv0, e0, p0⟩, _, _, _⟩ := O
        obtain ⟨_, _, hq⟩ := paired_mem p0 hx
        obtain ⟨_, _, _, _, _, _, h9⟩ := hq.2
        rw [z] at h9
        have := s57 _ _ (nw_none h9).2
        rw [nb2] at this
        cases this
    have s9 : Same H4 (upd H8 s (.dK (putK kvs2 (Sum.inl (n : Int)) (.ref p2)))) := updNew fs4 (s5.trans s58)
    generalize upd H8 s (.dK (putK kvs2 (Sum.inl (n : Int)) (.ref p2))) = H9 at O9 s9
    have eX1 : er (pt X (n : Int) (⟨b, [], []⟩, b2)) = pt F.S (n : Int) ⟨b, [], []⟩ := by rw [er_pt, eX]
    generalize pt X (n : Int) (⟨b, [], []⟩, b2) = X1 at O9 eX1
    have hpl : lk (pt F.S (n : Int) ⟨b, [], []⟩) pl = some t := by
      rw [lk_pt, if_neg, et]
      intro z
      rw [z, ln] at et
      cases et
    have hx1 : ∃ el1, lk X1 pl = some (t, el1) := by
      have := hpl
      rw [← eX1, lk_er] at this
      obtain ⟨y, hy, rfl⟩ := Option.map_eq_some_iff.mp this
      exact ⟨y.2, hy⟩
    obtain ⟨el1, hx1⟩ := hx1
    obtain ⟨⟨kvs3, ek3, pk3⟩, _, _, _⟩ := id O9
    obtain ⟨v3, hv3, p3, dx4, hl3, rfl, q1, q2, q3⟩ := (kv_get (k := Sum.inl) (F := fun v (y : Th × Addr) => ThE K (nw H4 H9) v y.2 y.1) (fun _ _ => inl_inj) (j := pl) pk3).1 _ hx1
    have q1' := (nw_none q1).2
    walk_at "go"
    refine x_dget (.inl (nw_none ek3).2) (k := Sum.inl pl) rfl hv3 ?_
    walk_at "go"
    have a9 : H9 a = some (.lst (ns.map V.str)) := s9 _ _ (s4 _ _ (s3 _ _ ha))
    have e0 : ns ≠ [] := by
      intro z
      unfold placeFor at epl
      rw [if_pos z] at epl
      cases epl
    refine x_ixL (v := .str (lastOf ns)) (SqL.of a9) (atI_last e0) ?_
    have el4 := (nw_none q3).1
    refine x_dput (nw_none q3).2 (by rw [ek_len]; show t.ents.length ≤ 1000; have h := (w.wt _ (lk_mem et)).2; exact Nat.le_trans h (by decide)) (k := Sum.inr (lastOf ns)) rfl ?_
    rw [ek_put]
    have O10 : OwnAt K (nw H4 (upd H9 el1 (.dK (ek (pt t.ents (lastOf ns) (n : Int)))))) s (pt X1 pl ({ t with ents := pt t.ents (lastOf ns) (n : Int) }, el1)) := by
      rw [nw_upd el4]
      exact own_ents O9 hx1
    have s10 : Same H4 (upd H9 el1 (.dK (ek (pt t.ents (lastOf ns) (n : Int))))) := updNew el4 s9
    generalize upd H9 el1 (.dK (ek (pt t.ents (lastOf ns) (n : Int)))) = H10 at O10 s10
    have eX2 : er (pt X1 pl ({ t with ents := pt t.ents (lastOf ns) (n : Int) }, el1)) = makeS F.S pl n (lastOf ns) b := by
      rw [er_pt, eX1]
      unfold makeS
      simp only [hpl, Option.getD_some]
    have sX := s04.trans s10
    have g10 := sX _ _ h1
    walk_at "go"
    refine x_meth_Files_become g10 ?_
    walk_at "go"
    have z60 : (lastOf ns).length ≤ 60 := by
      have hm : lastOf ns ∈ ns := by
        unfold lastOf
        cases hg : ns.getLast? with
        | none => exact absurd (List.getLast?_eq_none_iff.mp hg) e0
        | some z => exact List.mem_of_getLast? hg
      have := (name_ok (hn _ hm)).2
      omega
    have hS2 : StateAt K (av ms H10) s (makeS F.S pl n (lastOf ns) b) := by
      rw [← eX2]
      refine O10.state.same (nw_avS fun a ha => ?_)
      obtain ⟨o, ho⟩ := Option.isSome_iff_exists.mp (mS a ha)
      rw [s04 _ _ ho]
      rfl
    refine ⟨f, d, bl, lg, s, kp0, ms, F, B, Lg, makeS F.S pl n (lastOf ns) b, F.L, rfl, fm, FA.same sX, D.same sX, hS2, h3.same (same_avs sX), makeS_ws w z60, wn, fun c H11 s11 => ?_, fun c H11 k11 FA11 => ?_⟩
    · exact qe _ (by rw [emk, if_neg c]) _ (sX.trans s11)
    · walk_at "go"
      exact qo _ _ (by rw [emk, if_pos c]) _ (keep_pre sX k11) FA11
end SP

set_option Elab.async false
set_option linter.all false
set_option maxRecDepth 100000
set_option maxHeartbeats 4000000
/-! formatted. -/
namespace SP
open PySem PySem.Spec PyProof.Rows L2
local macro_rules | `(tactic| walk_at "hp") => `(tactic| first
  | assumption
  | exact upd_same
  | (refine' sameAt ?sA ?hA; (case sA => assumption); (case hA => walk_at "hp"))
  | (refine' Eq.trans (upd_ne ?nA) ?hA; (case nA => walk_at "ne"); (case hA => walk_at "hp")))
local macro_rules | `(tactic| walk_at "ne") => `(tactic| first
  | assumption
  | (refine' Ne.symm ?hA; assumption)
  | (refine' ne_of_none (H := _) ?hA (by assumption); walk_at "hp")
  | (refine' Ne.symm (ne_of_none (H := _) ?hA (by assumption)); walk_at "hp")
  | (refine' ne_of ?hA ?hB ?hC; (case hA => assumption); (case hB => walk_at "hp"); (case hC => (intro z; cases z))))
local macro_rules | `(tactic| walk_at "sm") => `(tactic| first
  | exact Same.refl _
  | assumption
  | (refine' sameTr ?sA ?sB; (case sA => assumption); (case sB => walk_at "sm")))
local macro_rules | `(tactic| walk_at "dm") => `(tactic| first
  | exact dmRefl
  | assumption
  | (refine' dmUpd ?dA; (case dA => walk_at "dm"))
  | (refine' dmSame ?sA ?dA; (case sA => assumption); (case dA => walk_at "dm")))
local macro_rules | `(tactic| walk_at "fr") => `(tactic| first
  | assumption
  | (refine' dmAt ?dA ?hA; (case hA => assumption); (case dA => walk_at "dm")))
local macro_rules | `(tactic| walk_at "ab") => `(tactic| (exfalso; refine absurd ?hA (noneSome ?hB); (case hB => walk_at "hp"); (case hA => assumption)))
local macro_rules | `(tactic| walk_at "kp") => `(tactic| first
  | exact Keep.refl
  | assumption
  | (refine' Keep.trans ?kA (keepUpd ?kB ?kC ?kD); (case kB => simp); (case kC => walk_at "hp"); (case kD => (intro xs z; cases z)); (case kA => walk_at "kp"))
  | (refine' keepTr ?kB ?kA; (case kB => assumption); (case kA => walk_at "kp"))
  | (refine' keepSm ?kB ?kA; (case kB => assumption); (case kA => walk_at "kp")))
local macro_rules | `(tactic| walk_at "get") => `(tactic| first
  | (refine' x_get_Files_state ?T ?h ?_) | (refine' x_get_Thing_kind ?T ?h ?_) | (refine' x_get_Thing_entries ?T ?h ?_) | (refine' x_get_Thing_held ?T ?h ?_)
  | (refine' x_get_Files_disk ?T ?h ?_) | (refine' x_get_Files_kept ?T ?h ?_) | (refine' x_get_Files_used ?T ?h ?_)
  | (refine' x_get_Disk_blocks ?T ?h ?_) | (refine' x_get_Disk_log ?T ?h ?_)
  | (refine' x_get_Reader_row ?T ?h ?_) | (refine' x_get_Reader_at ?T ?h ?_) | (refine' x_get_Reader_good ?T ?h ?_)
  | (refine' x_get_Files_slot ?T ?h ?_) | (refine' x_get_Files_turn ?T ?h ?_) | (refine' x_get_Files_is_new ?T ?h ?_))
local macro_rules | `(tactic| walk_at "set") => `(tactic| first
  | ((with_reducible refine' x_set_Disk_blocks ?T ?h ?_); (case T => assumption); (case h => walk_at "hp"))
  | ((with_reducible refine' i_set_Disk_blocks ?T ?h ?_); (case T => assumption); (case h => walk_at "hp"))
  | ((with_reducible refine' x_set_Disk_log ?T ?h ?_); (case T => assumption); (case h => walk_at "hp"))
  | ((with_reducible refine' i_set_Disk_log ?T ?h ?_); (case T => assumption); (case h => walk_at "hp"))
  | ((with_reducible refine' x_set_Thing_kind ?T ?h ?_); (case T => assumption); (case h => walk_at "hp"))
  | ((with_reducible refine' i_set_Thing_kind ?T ?h ?_); (case T => assumption); (case h => walk_at "hp"))
  | ((with_reducible refine' x_set_Thing_held ?T ?h ?_); (case T => assumption); (case h => walk_at "hp"))
  | ((with_reducible refine' i_set_Thing_held ?T ?h ?_); (case T => assumption); (case h => walk_at "hp"))
  | ((with_reducible refine' x_set_Thing_entries ?T ?h ?_); (case T => assumption); (case h => walk_at "hp"))
  | ((with_reducible refine' i_set_Thing_entries ?T ?h ?_); (case T => assumption); (case h => walk_at "hp"))
  | ((with_reducible refine' x_set_Reader_row ?T ?h ?_); (case T => assumption); (case h => walk_at "hp"))
  | ((with_reducible refine' i_set_Reader_row ?T ?h ?_); (case T => assumption); (case h => walk_at "hp"))
  | ((with_reducible refine' x_set_Reader_at ?T ?h ?_); (case T => assumption); (case h => walk_at "hp"))
  | ((with_reducible refine' i_set_Reader_at ?T ?h ?_); (case T => assumption); (case h => walk_at "hp"))
  | ((with_reducible refine' x_set_Reader_good ?T ?h ?_); (case T => assumption); (case h => walk_at "hp"))
  | ((with_reducible refine' i_set_Reader_good ?T ?h ?_); (case T => assumption); (case h => walk_at "hp"))
  | ((with_reducible refine' x_set_Files_disk ?T ?h ?_); (case T => assumption); (case h => walk_at "hp"))
  | ((with_reducible refine' i_set_Files_disk ?T ?h ?_); (case T => assumption); (case h => walk_at "hp"))
  | ((with_reducible refine' x_set_Files_state ?T ?h ?_); (case T => assumption); (case h => walk_at "hp"))
  | ((with_reducible refine' i_set_Files_state ?T ?h ?_); (case T => assumption); (case h => walk_at "hp"))
  | ((with_reducible refine' x_set_Files_kept ?T ?h ?_); (case T => assumption); (case h => walk_at "hp"))
  | ((with_reducible refine' i_set_Files_kept ?T ?h ?_); (case T => assumption); (case h => walk_at "hp"))
  | ((with_reducible refine' x_set_Files_slot ?T ?h ?_); (case T => assumption); (case h => walk_at "hp"))
  | ((with_reducible refine' i_set_Files_slot ?T ?h ?_); (case T => assumption); (case h => walk_at "hp"))
  | ((with_reducible refine' x_set_Files_turn ?T ?h ?_); (case T => assumption); (case h => walk_at "hp"))
  | ((with_reducible refine' i_set_Files_turn ?T ?h ?_); (case T => assumption); (case h => walk_at "hp"))
  | ((with_reducible refine' x_set_Files_used ?T ?h ?_); (case T => assumption); (case h => walk_at "hp"))
  | ((with_reducible refine' i_set_Files_used ?T ?h ?_); (case T => assumption); (case h => walk_at "hp"))
  | ((with_reducible refine' x_set_Files_is_new ?T ?h ?_); (case T => assumption); (case h => walk_at "hp"))
  | ((with_reducible refine' i_set_Files_is_new ?T ?h ?_); (case T => assumption); (case h => walk_at "hp")))
local macro_rules | `(tactic| walk_at "go1") => `(tactic| first
  | ((with_reducible refine w_var (v := ?vv) ?e ?_); (case e => rfl))
  | ((with_reducible walk_at "get"); (case T => assumption); (case h => walk_at "hp"))
  | (with_reducible refine x_bl ?_)
  | (with_reducible refine x_isN ?_) | (with_reducible refine x_notN ?_) | (with_reducible refine x_eqI ?_) | (with_reducible refine x_neI ?_) | (with_reducible refine x_eqS ?_) | (with_reducible refine x_neS ?_)
  | (with_reducible refine x_addI ?_) | (with_reducible refine x_subI ?_) | (with_reducible refine x_ltI ?_) | (with_reducible refine x_leI ?_) | (with_reducible refine x_gtI ?_) | (with_reducible refine x_geI ?_)
  | (with_reducible refine x_bv ?_) | (with_reducible refine x_part ?_) | (with_reducible refine x_neg ?_) | (with_reducible refine x_inS ?_)
  | (walk_at "set")
  | ((with_reducible refine' x_bmL ?h ?_); (case h => walk_at "hp")) | ((with_reducible refine' x_bmL0 ?h ?_); (case h => walk_at "hp")))
local macro_rules | `(tactic| walk_at "go") => `(tactic| ((try with_reducible (conv => whnf)); repeat ((walk_at "go1"); (try with_reducible (conv => whnf)))))
def S0 : St := [(0, ⟨true, [], []⟩)]
def row0 : List Int := imgB S0 []
def F0 : Fs := ⟨S0, [], 0, 1, [2], false⟩
def fmtB (B : List (Option (List Int))) : List (Option (List Int)) := ((setW B (chainW row0 [2] 1)).set 0 (some (rootL 1 2))).set 1 (some (padL []))
def fmtL (L : List Ent) : List Ent := L ++ logW (chainW row0 [2] 1) ++ [.wr 0 (rootL 1 2)] ++ [.wr 1 (padL [])] ++ [.bar]
theorem ws0 : Ws S0 := ⟨by decide, by decide, fun x hx => by
  rw [List.mem_singleton.mp hx]
  exact ⟨List.nodup_nil, Nat.zero_le _, Nat.zero_le _, fun _ h => (nomatch h)⟩⟩
theorem wn0 : Wn [] := ⟨List.nodup_nil, Nat.zero_le _, fun _ h => (nomatch h), fun _ h => (nomatch h)⟩
def sp_formatted (K : PySem.W.Frag) : Sp := fun vs H Q E => ∃ (d bl lg : Addr) (ms : List Addr) (B : List (Option (List Int))) (L : List Ent), vs = [.ref d] ∧ DiskAt K H d bl lg B L ∧ 3 ≤ B.length ∧ L.length ≤ 1000 ∧ bl ∈ ms ∧ lg ∈ ms ∧ (∀ a ∈ ms, (H a).isSome = true) ∧
  ∀ f H', H f = none → Keep [bl, lg] H H' → DiskAt K H' d bl lg (fmtB B) (fmtL L) → FilesAt K (f :: ms) H' f (.ref d) F0 → Q (.ref f) H'
def t_formatted (K : PySem.W.Frag) (W : WX) : TS := uSeq (uAsg (uMakeW (He.ga K "Files") (sp_Files___init__ K) W (uCons (tVar 0) (uCons (uCallW (sp_fresh K) W uNil) (uCons tDNewK uNil)))) (vName 1))
    (uSeq (uAsg (uCallW (sp_image K) W (uCons (uFld K (tVar 1) "state") (uCons (uFld K (tVar 1) "kept") uNil))) (vName 2))
    (uSeq (uDrop (uCallW (sp_write_chain K) W (uCons (tVar 0) (uCons (tVar 2) (uCons (uLst (uCons (uC (.int 2)) uNil)) uNil)))))
    (uSeq (uDrop (uCallW (sp_write_root K) W (uCons (tVar 0) (uCons (uC (.int 0)) (uCons (uC (.int 1)) (uCons (uC (.int 2)) uNil))))))
    (uSeq (uDrop (uMethW (He.ga K "Disk") "write" (sp_Disk_write K) W (tVar 0) (uCons (uC (.int 1)) (uCons (uCallW (sp_padded K) W (uCons (uLst uNil) uNil)) uNil))))
    (uSeq (uDrop (uMethW (He.ga K "Disk") "barrier" (sp_Disk_barrier K) W (tVar 0) uNil))
    (uSeq (uFldS K (tVar 1) (uLst (uCons (uC (.int 2)) uNil)) "used")
    (uRet (tVar 1))))))))
theorem pure_formatted {K : PySem.W.Frag} (TF : PxFiles K) {vs : List V} {H : Hp} {Q : VK} {E : XK} (h : sp_formatted K vs H Q E) : t_formatted K (WE1 E) (fin Q) (start ["disk", "files", "row"] vs) H := by
  obtain ⟨d, bl, lg, ms, B, L, rfl, D, hB, hL, mb, ml, mS, q⟩ := h
  show t_formatted K _ (fin Q) [some (.ref d), none, none] H
  unfold t_formatted
  walk_at "go"
  refine ⟨rfl, fun s X H1 eX O s1 => ?_⟩
  walk_at "go"
  refine w_dnew fun kp H2 nk hk s2 => ?_
  walk_at "go"
  refine x_make fun f dx H3 nf hf s3 => ?_
  refine ⟨f, dx, _, _, _, rfl, hf, fun us H4 nus k4 hf4 hus => ⟨rfl, ?_⟩⟩
  have s4 : Same H2 H4 := keepNew (fun x hx => by rw [List.mem_singleton.mp hx]; exact nf) s3 k4
  have s12 := s1.trans s2
  have s14 := s12.trans s4
  have hS4 : StateAt K (nw H H4) s S0 := by
    have := O.state
    rw [eX] at this
    exact this.same (nw_sameR (Same.refl H) (s2.trans s4))
  have hk4 : nw H H4 kp = some (.dK []) := nw_new (s1.free nk) (s4 _ _ hk)
  have hL4 : SnapsAt K (nw H H4) kp [] := ⟨[], hk4, .nil⟩
  have D4 := D.same s14
  walk_at "go"
  refine ⟨s, kp, S0, [], rfl, hS4.same (nw_same H H4), hL4.same (nw_same H H4), ws0, wn0, fun r H5 nr hr s5 => ?_⟩
  have hr : H5 r = some (.lst (row0.map V.int)) := hr
  walk_at "go"
  refine x_lst fun u H6 nu hu s6 => ?_
  walk_at "go"
  have s56 := s5.trans s6
  have nb : ∀ {a}, H a = none → a ∉ [bl, lg] := fun ha hm => by
    have : (H bl).isSome = true := mS _ mb
    have h2 : (H lg).isSome = true := mS _ ml
    rcases List.mem_cons.mp hm with e | hm
    · rw [← e, ha] at this; cases this
    · rw [← List.mem_singleton.mp hm, ha] at h2; cases h2
  refine ⟨d, bl, lg, r, u, row0, [2], B, L, rfl, D4.same s56, s6 _ _ hr, hu, nb (s14.free nr), nb ((s14.trans s5).free nu), fun n hn => ?_, by show _ + 1 ≤ _; omega, by decide, fun H7 k7 D7 => ?_⟩
  · rw [List.mem_singleton.mp hn]
    exact ⟨by decide, by show 2 < _; omega⟩
  walk_at "go"
  have lc : (chainW row0 [2] [2].length).length = 1 := rfl
  have ll : (L ++ logW (chainW row0 [2] [2].length)).length ≤ 1001 := by
    unfold logW
    rw [List.length_append, List.length_map, lc]
    omega
  refine ⟨d, bl, lg, 0, 1, 2, _, _, rfl, D7, by decide, by rw [setW_len]; show 0 < _; omega, by omega, fun H8 k8 D8 => ?_⟩
  walk_at "go"
  obtain ⟨ex8, ho8⟩ := D8.o
  refine x_meth_Disk_write ho8 ?_
  walk_at "go"
  refine x_lst fun z H9 nz hz s9 => ?_
  walk_at "go"
  refine ⟨z, [], rfl, hz, by decide, fun t H10 nt ht s10 => ?_⟩
  walk_at "go"
  refine ⟨d, bl, lg, t, 1, _, _, padL [], rfl, (D8.same s9).same s10, by decide, by rw [List.length_set, setW_len]; show 1 < _; omega, by rw [List.length_append]; show _ + 1 ≤ _; omega, ht, fun H11 k11 D11 => ?_⟩
  walk_at "go"
  obtain ⟨ex11, ho11⟩ := D11.o
  refine x_meth_Disk_barrier ho11 ?_
  walk_at "go"
  refine ⟨d, bl, lg, _, _, rfl, D11, by rw [List.length_append, List.length_append]; show _ + 1 + 1 ≤ _; omega, fun H12 k12 D12 => ?_⟩
  walk_at "go"
  refine x_lst fun us2 H13 nus2 hus2 s13 => ?_
  have ff : H f = none := s12.free nf
  have kk12 : Keep [bl, lg] H4 H12 := ((((keep_pre s56 k7).trans k8).trans (keep_pre (s9.trans s10) k11)).trans (k12.mono fun a ha => by rw [List.mem_singleton.mp ha]; simp))
  have kk : Keep [bl, lg] H4 H13 := kk12.trans (Keep.of s13)
  have hf13 := kk.k _ _ (nb ff) hf4
  walk_at "go"
  have k14 : Keep [f] H13 (upd H13 f (oFiles K dx (.ref d) (.ref s) (.ref kp) (.int 0) (.int 1) (.ref us2) (.bl false))) := keepUpd (by simp) hf13 (fun xs z => by cases z)
  have hf14 : (upd H13 f (oFiles K dx (.ref d) (.ref s) (.ref kp) (.int 0) (.int 1) (.ref us2) (.bl false))) f = some (oFiles K dx (.ref d) (.ref s) (.ref kp) (.int 0) (.int 1) (.ref us2) (.bl false)) := upd_same
  have hu14 : (upd H13 f (oFiles K dx (.ref d) (.ref s) (.ref kp) (.int 0) (.int 1) (.ref us2) (.bl false))) us2 = some (.lst ([2].map V.int)) := by
    rw [upd_ne (ne_of hus2 hf13 (by intro z; cases z))]
    exact hus2
  generalize upd H13 f (oFiles K dx (.ref d) (.ref s) (.ref kp) (.int 0) (.int 1) (.ref us2) (.bl false)) = H14 at k14 hf14 hu14
  have kA : Keep [bl, lg] H H13 := keep_pre s14 kk
  have neF : ∀ {a o}, H a = some o → a ∉ [f] := fun e hm => by
    rw [List.mem_singleton.mp hm, ff] at e
    cases e
  obtain ⟨exd, hod⟩ := id D.o
  obtain ⟨wsb, hbb, _⟩ := id D.b
  obtain ⟨wsl, hbl, _⟩ := id D.l
  have sN : Same (nw H H2) (av (f :: ms) H14) := fun a o e => by
    obtain ⟨e1, e2⟩ := nw_none e
    have nf2 : a ≠ f := fun z => by rw [z, nf] at e2; cases e2
    refine av_at (k14.k _ _ (by rw [List.mem_singleton]; exact nf2) (kk.k _ _ (nb e1) (s4 _ _ e2))) fun hm => ?_
    rcases List.mem_cons.mp hm with z | hm
    · exact nf2 z
    · have := mS a hm
      rw [e1] at this
      cases this
  refine q f H14 ff ⟨fun a o n e => k14.k _ _ (neF e) (kA.k _ _ n e), fun a xs e => k14.t _ _ (kA.t _ _ e)⟩ ((D12.same s13).keep k14 (neF hod) (neF hbb) (neF hbl)) ⟨⟨dx, s, kp, us2, hf14, ?_, ?_, ?_⟩⟩
  · have := O.state
    rw [eX] at this
    exact (this.same (nw_sameR (Same.refl H) s2)).same sN
  · exact ⟨[], sN _ _ (nw_new (s1.free nk) hk), .nil⟩
  · refine av_at hu14 fun hm => ?_
    rcases List.mem_cons.mp hm with z | hm
    · have := kk12.k _ _ (nb ff) hf4
      rw [← z, nus2] at this
      cases this
    · obtain ⟨o, ho⟩ := Option.isSome_iff_exists.mp (mS _ hm)
      by_cases c : us2 ∈ [bl, lg]
      · obtain ⟨w1, y1, _⟩ := D12.b
        obtain ⟨w2, y2, _⟩ := D12.l
        rcases List.mem_cons.mp c with z | z
        · rw [z, y1] at nus2; cases nus2
        · rw [List.mem_singleton.mp z, y2] at nus2; cases nus2
      · have := kk12.k _ _ c (s14 _ _ ho)
        rw [nus2] at this
        cases this
end SP

set_option Elab.async false
set_option linter.all false
set_option maxRecDepth 100000
set_option maxHeartbeats 4000000
/-! A text times an int; isalnum by name. -/
namespace SP
open PySem PySem.Spec PyProof.Rows L2
def rAlnum : V → List V → Hp → VK → Prop := fun x xs H Q => ∃ a, x = .str a ∧ xs = [] ∧ True ∧ Q (.bl (Txt.isalnum a)) H
theorem mt_isalnumN {X : Cx} : MtR X "str.isalnum" rAlnum := mt_isalnum
theorem x_bmS0 {K : PySem.W.Frag} {H : Hp} {Q : VK} {z : Str} {r : V → List V → Hp → VK → Prop} (q : r (.str z) [] H Q) : rBMt0 K "str" r (.str z) H Q := ⟨rfl, q⟩
def repS (z : Str) (k : Nat) : Str := ⟨(List.replicate k z.cps).foldl (· ++ ·) #[]⟩
theorem repS_size (z : Array Nat) : ∀ (k : Nat) (acc : Array Nat), ((List.replicate k z).foldl (· ++ ·) acc).size = acc.size + k * z.size
  | 0, acc => by simp
  | k + 1, acc => by
    rw [List.replicate_succ, List.foldl_cons, repS_size z k, Array.size_append, Nat.succ_mul]
    omega
def rMulS : R2 := fun x y H Q => ∃ (z : Str) (n : Int), x = .str z ∧ y = .int n ∧ 2 ≤ n ∧ n ≤ 1000 ∧ 0 < z.length ∧ z.length ≤ 1000 ∧ Q (.str (repS z n.toNat)) H
theorem op_mulStr {X : Cx} : OpR X (binaryOp .Mult) rMulS := by
  intro pins s σ H x y v u Q I rx ry h
  obtain ⟨z, n, rfl, rfl, h1, h2, h3, h4, q⟩ := h
  obtain ⟨t, rfl⟩ := rx
  obtain ⟨t', rfl⟩ := ry
  have hm : z.length * n.toNat ≤ 1000000 := Nat.le_trans (Nat.mul_le_mul h4 (show n.toNat ≤ 1000 by omega)) (by decide)
  have hf : (n == 1 || z.length == 0) = false := by
    rw [Bool.or_eq_false_iff]
    exact ⟨by rw [beq_eq_false_iff_ne]; omega, by rw [beq_eq_false_iff_ne]; omega⟩
  refine P.mul_str (by rw [decide_eq_false (by omega), decide_eq_false (by omega)]; rfl) (fun _ _ => ?_) (fun _ _ => ?_) ?_
  · have : 1000 ≤ (2 ^ 63 - 1 : Int) / n := by
      refine Int.le_ediv_of_mul_le (by omega) ?_
      omega
    omega
  · exact decide_eq_false (by rw [sizeLine_eq]; omega)
  · rw [if_neg (by omega), if_neg (by rw [hf]; decide)]
    refine ⟨?_, ⟨.str (repS z n.toNat), H, I.tok _, ⟨_, rfl⟩, q⟩⟩
    show (repS z n.toNat).cps.size ≤ sizeLine
    rw [sizeLine_eq]
    show ((List.replicate n.toNat z.cps).foldl (· ++ ·) #[]).size ≤ _
    rw [repS_size]
    have e : z.cps.size = z.length := rfl
    rw [e, Nat.mul_comm]
    show 0 + _ ≤ _
    omega
def rJoinS (K : PySem.W.Frag) : V → List V → Hp → VK → Prop := fun x xs H Q => ∃ a p, ∃ ys : List Str, x = .str a ∧ xs = [.ref p] ∧ (SqL K H p (ys.map V.str) ∨ SqT K H p (ys.map V.str)) ∧ (ys.map (·.length)).sum + ys.length * a.length ≤ 16777216 ∧ Q (.str (Txt.join a ys)) H
theorem x_join {K : PySem.W.Frag} {H : Hp} {Q : VK} {a : Str} {p : Addr} {ys : List Str} (h : H p = some (.lst (ys.map V.str))) (hl : (ys.map (·.length)).sum + ys.length * a.length ≤ 16777216) (q : Q (.str (Txt.join a ys)) H) : rJoinS K (.str a) [.ref p] H Q := ⟨a, p, ys, rfl, rfl, .inl (SqL.of h), hl, q⟩
/-- a text of a list of texts, whichever -/
theorem x_ixStr {K : PySem.W.Frag} {H : Hp} {Q : VK} {l : Addr} {xs : List Str} {j : Int} (h : H l = some (.lst (xs.map V.str))) (h0 : 0 ≤ j) (h1 : j < (xs.length : Int)) (q : ∀ z, z ∈ xs → Q (.str z) H) : rIxL K (.ref l) (.int j) H Q := by
  have hj : j.toNat < xs.length := by omega
  refine ⟨l, xs.map V.str, j, .str xs[j.toNat], rfl, rfl, SqL.of h, ?_, q _ (List.getElem_mem hj)⟩
  unfold atI ixN
  rw [if_pos h0, List.length_map, if_pos h1]
  show (xs.map V.str)[j.toNat]? = _
  rw [List.getElem?_map, List.getElem?_eq_getElem hj]
  rfl
theorem x_ixInt {K : PySem.W.Frag} {H : Hp} {Q : VK} {l : Addr} {xs : List Int} {j : Int} (h : H l = some (.lst (xs.map V.int))) (h0 : 0 ≤ j) (h1 : j < (xs.length : Int)) (q : ∀ z, z ∈ xs → Q (.int z) H) : rIxL K (.ref l) (.int j) H Q := by
  have hj : j.toNat < xs.length := by omega
  refine ⟨l, xs.map V.int, j, .int xs[j.toNat], rfl, rfl, SqL.of h, ?_, q _ (List.getElem_mem hj)⟩
  unfold atI ixN
  rw [if_pos h0, List.length_map, if_pos h1]
  show (xs.map V.int)[j.toNat]? = _
  rw [List.getElem?_map, List.getElem?_eq_getElem hj]
  rfl
theorem join_len : ∀ ys : List Str, (Txt.join "" ys).length = (ys.map (·.length)).sum
  | [] => rfl
  | [x] => by
    show x.length = x.length + 0
    rfl
  | x :: y :: r => by
    have ih := join_len (y :: r)
    rw [TL.join_eq] at ih ⊢
    show (x ++ "" ++ Str.join "" (y :: r)).length = _
    rw [List.map_cons, List.sum_cons, ← ih]
    show (x.cps ++ #[] ++ (Str.join "" (y :: r)).cps).size = _
    rw [Array.size_append, Array.append_empty]
    rfl
def rIsC (C : Addr) : List V → Hp → VK → Prop := fun xs H Q => ∃ a dx fs, xs = [.ref a, .ref C] ∧ H a = some (.ins C dx fs) ∧ Q (.bl true) H
theorem call_isCn {X : Cx} {C : Addr} (c : C8.InsC X.K C) : CallR X (.builtin "isinstance") (rIsC C) := C8.call_isC c
theorem x_isC {C a dx : Addr} {fs : List (Str × V)} {H : Hp} {Q : VK} (e : H a = some (.ins C dx fs)) (q : Q (.bl true) H) : rIsC C [.ref a, .ref C] H Q := ⟨a, dx, fs, rfl, e, q⟩
def insB (K : PySem.W.Frag) (C : Addr) : Bool :=
  decide (PySem.W.findIn K (.ref C) "__class__" = some (some (.builtin "object.__class__"))) && (decide (PySem.W.specialIn K (.builtin "object.__class__") "__get__" = some (some (.builtin "getset_descriptor.__get__"))) &&
  (decide (PySem.W.takesIn K (.builtin "object.__class__") = some true) && (decide (PySem.W.mroIn K C (.type "object") = some true) && decide (PySem.W.kitOne K (.ref C) (.ref C) = some true))))
theorem insB_ok {K : PySem.W.Frag} {C : Addr} (c : Cls K C) (h : insB K C = true) : C8.InsC K C := by
  unfold insB at h
  simp only [Bool.and_eq_true, decide_eq_true_eq] at h
  obtain ⟨h1, h2, h3, h4, h5⟩ := h
  exact ⟨c, h1, h2, h3, h4, h5⟩
end SP

set_option Elab.async false
set_option linter.all false
set_option maxRecDepth 100000
set_option maxHeartbeats 4000000
/-! How many bytes an image has. -/
namespace SP
open PySem PySem.Spec PyProof.Rows L2
theorem flat_sum {α : Type} {f : α → List Int} : ∀ l : List α, (l.flatMap f).length = (l.map fun x => (f x).length).sum
  | [] => rfl
  | x :: r => by rw [List.flatMap_cons, List.length_append, List.map_cons, List.sum_cons, flat_sum r]
theorem perm_sum {l m : List Nat} (h : l.Perm m) : l.sum = m.sum := h.sum_nat
def szT (t : Th) : Nat := if t.dir = true then 3 + (t.ents.map fun e => 2 + e.1.length).sum else 4 + t.held.length
def szS (S : St) : Nat := 1 + (S.map fun x => szT x.2).sum
def szI (S : St) (L : Sn) : Nat := 1 + szS S + (L.map fun x => 1 + x.1.length + szS x.2).sum
theorem sum_lk {κ β : Type} [DecidableEq κ] {l : List (κ × β)} (nd : (l.map (·.1)).Nodup) (f : κ → Option β → Nat) : ((l.map (·.1)).map fun k => f k (lk l k)).sum = (l.map fun x => f x.1 (some x.2)).sum := by
  rw [List.map_map]
  congr 1
  refine List.map_congr_left fun x hx => ?_
  show f x.1 (lk l x.1) = _
  rw [lk_of_mem nd hx]
theorem thingB_size {n : Int} {t : Th} (nd : (t.ents.map (·.1)).Nodup) : (thingB n t).length = szT t := by
  unfold thingB szT
  split
  · rw [List.length_append, flat_sum, perm_sum ((sortS_perm (t.ents.map (·.1))).map _)]
    have : (fun z => (entB t.ents z).length) = fun z => 2 + z.length := by
      funext z
      unfold entB
      rw [List.length_append, tbytes_len]
      show 1 + _ = _
      omega
    rw [this, List.map_map]
    rfl
  · rw [List.length_append]
    rfl
theorem stateB_size {S : St} (w : Ws S) : (stateB S).length = szS S := by
  unfold stateB szS
  rw [List.length_append, flat_sum, perm_sum ((sortZ_perm (S.map (·.1))).map _)]
  have h := sum_lk w.kd (fun n o => (thingB n (o.getD thD)).length)
  show 1 + ((S.map (·.1)).map fun n => (thingB n ((lk S n).getD thD)).length).sum = _
  rw [h]
  congr 2
  refine List.map_congr_left fun x hx => ?_
  exact thingB_size (w.wt x hx).kd
theorem imgB_size {S : St} {L : Sn} (w : Ws S) (wn : Wn L) : (imgB S L).length = szI S L := by
  unfold imgB szI
  rw [List.length_append, List.length_append, stateB_size w, flat_sum, perm_sum ((sortS_perm (L.map (·.1))).map _)]
  have h := sum_lk wn.kd (fun z o => (tbytes z ++ stateB (o.getD [])).length)
  show 1 + szS S + ((L.map (·.1)).map fun z => (tbytes z ++ stateB ((lk L z).getD [])).length).sum = _
  rw [h]
  congr 2
  refine List.map_congr_left fun x hx => ?_
  show (tbytes x.1 ++ stateB x.2).length = _
  rw [List.length_append, tbytes_len, stateB_size (wn.ws x hx)]
  omega
def room (n : Nat) (used : List Int) (count : Nat) : Bool := decide (manyBlocks n + (used.length : Int) + 2 ≤ (count : Int))
theorem roomOk_iff {S : St} {L : Sn} {used : List Int} {count : Nat} (w : Ws S) (wn : Wn L) : roomOk S L used count ↔ room (szI S L) used count = true := by
  unfold roomOk room
  rw [imgB_size w wn, decide_eq_true_eq]
/-! ### looks at written states -/
def cloB (S : St) : Bool := (lk S 0).isSome && S.all fun x => x.2.ents.all fun e => (lk S e.2).isSome
theorem cloB_ok {S : St} (h : cloB S = true) : Clo S := by
  unfold cloB at h
  obtain ⟨h1, h2⟩ := Bool.and_eq_true_iff.mp h
  refine ⟨h1, fun n t e z i ei => ?_⟩
  exact List.all_eq_true.mp (List.all_eq_true.mp h2 _ (lk_mem e)) _ (lk_mem ei)
instance : DecidableEq Th := fun a b => decidable_of_iff (a.dir = b.dir ∧ a.held = b.held ∧ a.ents = b.ents) (by
  constructor
  · rintro ⟨h1, h2, h3⟩
    cases a
    cases b
    simp only at h1 h2 h3
    rw [h1, h2, h3]
  · intro h
    rw [h]
    exact ⟨rfl, rfl, rfl⟩)
def wgB (S : St) : Bool := decide (S.map (·.1)).Nodup && (decide (S.length ≤ 40) && S.all fun x => decide (x.2.ents.map (·.1)).Nodup && (decide (x.2.ents.length ≤ 45) && (decide (x.2.held.length ≤ 1000) && x.2.ents.all fun e => decide (e.1.length ≤ 60))))
theorem wgB_ok {S : St} (h : wgB S = true) : Wg S := by
  unfold wgB at h
  simp only [Bool.and_eq_true, decide_eq_true_eq, List.all_eq_true] at h
  obtain ⟨h1, h2, h3⟩ := h
  exact ⟨h1, h2, fun x hx => ⟨⟨(h3 x hx).1, by have := (h3 x hx).2.1; omega, (h3 x hx).2.2.1, (h3 x hx).2.2.2⟩, (h3 x hx).2.1⟩⟩
/-- a thing is made -/
theorem makeF_ok {F : Fs} {count : Nat} {p : Str} {b : Bool} {ns : List Str} {pl : Int} {S : St} {n : Nat} (e1 : partsOf p = some ns) (e2 : placeFor F.S ns = .ok pl) (e3 : leastFree F.S = n) (e4 : makeS F.S pl n (lastOf ns) b = S) (h1 : n ≠ 32) (h2 : ((lk F.S pl).getD thD).ents.length ≠ 40)
    (w : Ws S) (wn : Wn F.L) (h3 : room (szI S F.L) F.used count = true) : makeF F count p b = .ok (S, (n : Int)) := by
  unfold makeF
  rw [e1]
  show (match placeFor F.S ns with | .error x => _ | .ok pl => _) = _
  rw [e2]
  show (if leastFree F.S = 32 ∨ ((lk F.S pl).getD thD).ents.length = 40 then _ else _) = _
  rw [e3, if_neg (by rintro (z | z); exact h1 z; exact h2 z), e4, if_pos ((roomOk_iff w wn).mpr h3)]
end SP

set_option Elab.async false
set_option linter.all false
set_option maxRecDepth 100000
set_option maxHeartbeats 4000000
/-! A text split at one sign. -/
namespace SP
open PySem PySem.Spec PyProof.Rows L2 TL
theorem tl_slash : TL.tl ("/" : Str) = [47] := rfl
theorem split_tl (x : Str) : (Txt.split x "/").map TL.tl = TL.spl [47] 0 [] (TL.tl x) := split_spl x "/" (by rw [tl_slash]; simp) (kind_ok (by decide +kernel))
theorem pre_hit (r : List Nat) : TL.pre [47] (47 :: r) = true := pre_self [47] r
theorem pre_miss {c : Nat} (r : List Nat) (h : c ≠ 47) : TL.pre [47] (c :: r) = false := pre_of_head [] r h
/-- the first piece begins with what was read -/
theorem spl_acc (acc : List Nat) : ∀ l : List Nat, ∃ p r, TL.spl [47] 0 acc l = (acc ++ p) :: r
  | [] => ⟨[], [], by rw [spl_nil, List.append_nil]⟩
  | c :: r => by
    by_cases h : c = 47
    · subst h
      exact ⟨[], _, by rw [spl_hit (pre_hit r), List.append_nil]⟩
    · rw [spl_miss (pre_miss r h)]
      obtain ⟨p, q, e⟩ := spl_acc (acc ++ [c]) r
      exact ⟨c :: p, q, by rw [e, List.append_assoc]; rfl⟩
theorem split_cons (x y : Str) (h : TL.tl x = 47 :: TL.tl y) : Txt.split x "/" = (("" : Str) :: Txt.split y "/") := by
  refine map_tl_inj ?_
  rw [List.map_cons, split_tl, split_tl, h, spl_hit (pre_hit _)]
  rfl
theorem split_ne (x : Str) {c : Nat} {r : List Nat} (h : TL.tl x = c :: r) (hc : c ≠ 47) : ∃ p q, Txt.split x "/" = p :: q ∧ p ≠ "" := by
  have e := split_tl x
  rw [h, spl_miss (pre_miss r hc)] at e
  obtain ⟨p, q, e2⟩ := spl_acc ([] ++ [c]) r
  rw [e2] at e
  cases hs : Txt.split x "/" with
  | nil => rw [hs] at e; cases e
  | cons a b =>
    rw [hs, List.map_cons] at e
    injection e with e3 _
    refine ⟨a, b, rfl, fun z => ?_⟩
    rw [z] at e3
    cases e3
theorem split_nil : Txt.split ("" : Str) "/" = [("" : Str)] := map_tl_inj (by rw [split_tl]; rfl)
end SP

set_option Elab.async false
set_option linter.all false
set_option maxRecDepth 100000
set_option maxHeartbeats 4000000
/-! The law of paths. -/
namespace SP
open PySem PySem.Spec PyProof.Rows L2 L2H
local macro_rules | `(tactic| walk_at "hp") => `(tactic| first
  | assumption
  | exact upd_same
  | (refine' sameAt ?sA ?hA; (case sA => assumption); (case hA => walk_at "hp"))
  | (refine' Eq.trans (upd_ne ?nA) ?hA; (case nA => walk_at "ne"); (case hA => walk_at "hp")))
local macro_rules | `(tactic| walk_at "ne") => `(tactic| first
  | assumption
  | (refine' Ne.symm ?hA; assumption)
  | (refine' ne_of_none (H := _) ?hA (by assumption); walk_at "hp")
  | (refine' Ne.symm (ne_of_none (H := _) ?hA (by assumption)); walk_at "hp")
  | (refine' ne_of ?hA ?hB ?hC; (case hA => assumption); (case hB => walk_at "hp"); (case hC => (intro z; cases z))))
local macro_rules | `(tactic| walk_at "sm") => `(tactic| first
  | exact Same.refl _
  | assumption
  | (refine' sameTr ?sA ?sB; (case sA => assumption); (case sB => walk_at "sm")))
local macro_rules | `(tactic| walk_at "dm") => `(tactic| first
  | exact dmRefl
  | assumption
  | (refine' dmUpd ?dA; (case dA => walk_at "dm"))
  | (refine' dmSame ?sA ?dA; (case sA => assumption); (case dA => walk_at "dm")))
local macro_rules | `(tactic| walk_at "fr") => `(tactic| first
  | assumption
  | (refine' dmAt ?dA ?hA; (case hA => assumption); (case dA => walk_at "dm")))
local macro_rules | `(tactic| walk_at "ab") => `(tactic| (exfalso; refine absurd ?hA (noneSome ?hB); (case hB => walk_at "hp"); (case hA => assumption)))
local macro_rules | `(tactic| walk_at "kp") => `(tactic| first
  | exact Keep.refl
  | assumption
  | (refine' Keep.trans ?kA (keepUpd ?kB ?kC ?kD); (case kB => simp); (case kC => walk_at "hp"); (case kD => (intro xs z; cases z)); (case kA => walk_at "kp"))
  | (refine' keepTr ?kB ?kA; (case kB => assumption); (case kA => walk_at "kp"))
  | (refine' keepSm ?kB ?kA; (case kB => assumption); (case kA => walk_at "kp")))
local macro_rules | `(tactic| walk_at "get") => `(tactic| first
  | (refine' x_get_Files_state ?T ?h ?_) | (refine' x_get_Thing_kind ?T ?h ?_) | (refine' x_get_Thing_entries ?T ?h ?_) | (refine' x_get_Thing_held ?T ?h ?_)
  | (refine' x_get_Files_disk ?T ?h ?_) | (refine' x_get_Files_kept ?T ?h ?_) | (refine' x_get_Files_used ?T ?h ?_)
  | (refine' x_get_Disk_blocks ?T ?h ?_) | (refine' x_get_Disk_log ?T ?h ?_)
  | (refine' x_get_Reader_row ?T ?h ?_) | (refine' x_get_Reader_at ?T ?h ?_) | (refine' x_get_Reader_good ?T ?h ?_)
  | (refine' x_get_Files_slot ?T ?h ?_) | (refine' x_get_Files_turn ?T ?h ?_) | (refine' x_get_Files_is_new ?T ?h ?_))
local macro_rules | `(tactic| walk_at "set") => `(tactic| first
  | ((with_reducible refine' x_set_Disk_blocks ?T ?h ?_); (case T => assumption); (case h => walk_at "hp"))
  | ((with_reducible refine' i_set_Disk_blocks ?T ?h ?_); (case T => assumption); (case h => walk_at "hp"))
  | ((with_reducible refine' x_set_Disk_log ?T ?h ?_); (case T => assumption); (case h => walk_at "hp"))
  | ((with_reducible refine' i_set_Disk_log ?T ?h ?_); (case T => assumption); (case h => walk_at "hp"))
  | ((with_reducible refine' x_set_Thing_kind ?T ?h ?_); (case T => assumption); (case h => walk_at "hp"))
  | ((with_reducible refine' i_set_Thing_kind ?T ?h ?_); (case T => assumption); (case h => walk_at "hp"))
  | ((with_reducible refine' x_set_Thing_held ?T ?h ?_); (case T => assumption); (case h => walk_at "hp"))
  | ((with_reducible refine' i_set_Thing_held ?T ?h ?_); (case T => assumption); (case h => walk_at "hp"))
  | ((with_reducible refine' x_set_Thing_entries ?T ?h ?_); (case T => assumption); (case h => walk_at "hp"))
  | ((with_reducible refine' i_set_Thing_entries ?T ?h ?_); (case T => assumption); (case h => walk_at "hp"))
  | ((with_reducible refine' x_set_Reader_row ?T ?h ?_); (case T => assumption); (case h => walk_at "hp"))
  | ((with_reducible refine' i_set_Reader_row ?T ?h ?_); (case T => assumption); (case h => walk_at "hp"))
  | ((with_reducible refine' x_set_Reader_at ?T ?h ?_); (case T => assumption); (case h => walk_at "hp"))
  | ((with_reducible refine' i_set_Reader_at ?T ?h ?_); (case T => assumption); (case h => walk_at "hp"))
  | ((with_reducible refine' x_set_Reader_good ?T ?h ?_); (case T => assumption); (case h => walk_at "hp"))
  | ((with_reducible refine' i_set_Reader_good ?T ?h ?_); (case T => assumption); (case h => walk_at "hp"))
  | ((with_reducible refine' x_set_Files_disk ?T ?h ?_); (case T => assumption); (case h => walk_at "hp"))
  | ((with_reducible refine' i_set_Files_disk ?T ?h ?_); (case T => assumption); (case h => walk_at "hp"))
  | ((with_reducible refine' x_set_Files_state ?T ?h ?_); (case T => assumption); (case h => walk_at "hp"))
  | ((with_reducible refine' i_set_Files_state ?T ?h ?_); (case T => assumption); (case h => walk_at "hp"))
  | ((with_reducible refine' x_set_Files_kept ?T ?h ?_); (case T => assumption); (case h => walk_at "hp"))
  | ((with_reducible refine' i_set_Files_kept ?T ?h ?_); (case T => assumption); (case h => walk_at "hp"))
  | ((with_reducible refine' x_set_Files_slot ?T ?h ?_); (case T => assumption); (case h => walk_at "hp"))
  | ((with_reducible refine' i_set_Files_slot ?T ?h ?_); (case T => assumption); (case h => walk_at "hp"))
  | ((with_reducible refine' x_set_Files_turn ?T ?h ?_); (case T => assumption); (case h => walk_at "hp"))
  | ((with_reducible refine' i_set_Files_turn ?T ?h ?_); (case T => assumption); (case h => walk_at "hp"))
  | ((with_reducible refine' x_set_Files_used ?T ?h ?_); (case T => assumption); (case h => walk_at "hp"))
  | ((with_reducible refine' i_set_Files_used ?T ?h ?_); (case T => assumption); (case h => walk_at "hp"))
  | ((with_reducible refine' x_set_Files_is_new ?T ?h ?_); (case T => assumption); (case h => walk_at "hp"))
  | ((with_reducible refine' i_set_Files_is_new ?T ?h ?_); (case T => assumption); (case h => walk_at "hp")))
local macro_rules | `(tactic| walk_at "go1") => `(tactic| first
  | ((with_reducible refine w_var (v := ?vv) ?e ?_); (case e => rfl))
  | ((with_reducible walk_at "get"); (case T => assumption); (case h => walk_at "hp"))
  | (with_reducible refine x_bl ?_)
  | (with_reducible refine x_isN ?_) | (with_reducible refine x_notN ?_) | (with_reducible refine x_eqI ?_) | (with_reducible refine x_neI ?_) | (with_reducible refine x_eqS ?_) | (with_reducible refine x_neS ?_)
  | (with_reducible refine x_addI ?_) | (with_reducible refine x_subI ?_) | (with_reducible refine x_ltI ?_) | (with_reducible refine x_leI ?_) | (with_reducible refine x_gtI ?_) | (with_reducible refine x_geI ?_)
  | (with_reducible refine x_bv ?_) | (with_reducible refine x_part ?_) | (with_reducible refine x_neg ?_) | (with_reducible refine x_inS ?_)
  | (walk_at "set")
  | ((with_reducible refine' x_bmL ?h ?_); (case h => walk_at "hp")) | ((with_reducible refine' x_bmL0 ?h ?_); (case h => walk_at "hp")))
local macro_rules | `(tactic| walk_at "go") => `(tactic| ((try with_reducible (conv => whnf)); repeat ((walk_at "go1"); (try with_reducible (conv => whnf)))))
def lawSign (c : Nat) : Bool := (Txt.isalnum ⟨#[c]⟩ && decide (c < 128)) || decide (c ∈ ("._-" : Str).cps.toList)
theorem lawSign_small : ∀ c, c < 128 → lawSign c = signIn c := by decide +kernel
theorem lawSign_eq (c : Nat) : lawSign c = signIn c := by
  by_cases h : c < 128
  · exact lawSign_small c h
  · have h1 : ∀ x ∈ ("._-" : Str).cps.toList, x < 128 := by decide +kernel
    have h2 : ∀ x ∈ txt_SIGNS.cps.toList, x < 128 := by decide +kernel
    unfold lawSign signIn
    rw [decide_eq_false h, Bool.and_false, Bool.false_or, decide_eq_false (fun z => h (h1 c z)), decide_eq_false (fun z => h (h2 c z))]
def sp__law_is_name (K : PySem.W.Frag) : Sp := fun vs H Q E => ∃ t : Str, vs = [.str t] ∧ t.length ≤ 100000 ∧ ∀ H', Same H H' → Q (.bl (isName t)) H'
def t__law_is_name (K : PySem.W.Frag) (W : WX) : TS := uSeq (uIfS (uOr (uTest (uOp rLtI (uCB cLenS (uCons (tVar 0) uNil)) (uC (.int 1)))) (uOr (uTest (uOp rGtI (uCB cLenS (uCons (tVar 0) uNil)) (uC (.int 8)))) (uTest (uOp (rInQ K) (tVar 0) (uLst (uCons (uC (.str ".")) (uCons (uC (.str "..")) uNil))))))) (uRet (uC (.bl false))) uNext)
    (uRet (uCB (rAll K) (uCons (uLc (uStrI (tVar 0)) (vName 1) tYes (uOrV (uAndV (uBM0 K "str" rAlnum (tVar 1)) (uOp rLtI (uCB cOrd (uCons (tVar 1) uNil)) (uC (.int 128)))) (uOp rInS (tVar 1) (uC (.str "._-")))) [1]) uNil)))
theorem pure__law_is_name {K : PySem.W.Frag} {vs : List V} {H : Hp} {Q : VK} {E : XK} (h : sp__law_is_name K vs H Q E) : t__law_is_name K (WE1 E) (fin Q) (start ["_law_name", "_law_sign"] vs) H := by
  obtain ⟨t, rfl, hl, q⟩ := h
  have hz : t.length ≤ sizeLine := Nat.le_trans hl (by rw [sizeLine_eq]; decide)
  have no : isName t = false → ∀ H1, Same H H1 → Q (.bl false) H1 := fun e H1 s1 => by
    rw [← e]
    exact q H1 s1
  show t__law_is_name K _ (fin Q) [some (.str t), none] H
  unfold t__law_is_name
  walk_at "go"
  refine x_lenS hz ?_
  walk_at "go"
  by_cases c1 : (t.length : Int) < 1
  · refine x_ifT (decide_eq_true c1) ?_
    walk_at "go"
    refine x_ifT rfl ?_
    walk_at "go"
    exact no (by unfold isName; rw [decide_eq_false (show ¬ 1 ≤ (t.length : Int) by omega), Bool.false_and, Bool.false_and]) H (Same.refl H)
  refine x_ifF (decide_eq_false c1) ?_
  walk_at "go"
  refine x_lenS hz ?_
  walk_at "go"
  by_cases c2 : 8 < (t.length : Int)
  · refine x_ifT (decide_eq_true c2) ?_
    walk_at "go"
    refine x_ifT rfl ?_
    walk_at "go"
    exact no (by unfold isName; rw [decide_eq_false (show ¬ (t.length : Int) ≤ 8 by omega), Bool.and_false, Bool.false_and]) H (Same.refl H)
  refine x_ifF (decide_eq_false c2) ?_
  walk_at "go"
  refine x_lst fun p H1 np hp s1 => ?_
  refine ⟨p, _, rfl, .inl (SqL.of hp), rfl, rfl, ?_⟩
  walk_at "go"
  refine x_if (fun hi => ?_) (fun hi => ?_)
  · walk_at "go"
    exact no (by unfold isName; rw [show inV (.str t) [.str ".", .str ".."] = true from hi, Bool.not_true, Bool.false_and, Bool.and_false]) H1 s1
  walk_at "go"
  refine x_istr ?_
  refine x_lcW walk_str (fun i acc _ => acc = (t.cps.toList.take i).map fun c => V.bl (signIn c)) (fun _ _ _ _ _ h => h) (fun _ _ => trivial) (by exact hl) rfl (fun i x D H' H'' acc P P0 hi nD hD s2 hP hY k1 k2 => ?_) (fun D H' acc nD hD lA s2 hP => ?_)
  · obtain ⟨rfl, c, hc, rfl⟩ := hY
    refine ⟨rfl, ?_⟩
    refine x_yes ?_
    refine x_ifT rfl ?_
    have fin1 : P (.bl (signIn c)) H'' := by
      refine k1 _ _ (Same.refl _) ?_
      subst hP
      have hc2 : t.cps.toList[i]? = some c := by rw [← hc]; simp
      rw [take_snoc hc2, List.map_append]
      rfl
    rw [← lawSign_eq] at fin1
    unfold lawSign at fin1
    walk_at "go"
    refine x_bmS0 ?_
    refine ⟨_, rfl, rfl, trivial, ?_⟩
    walk_at "go"
    cases ha : Txt.isalnum ⟨#[c]⟩ with
    | true =>
      rw [ha, Bool.true_and] at fin1
      refine x_ifT rfl ?_
      walk_at "go"
      refine x_ord ?_
      walk_at "go"
      by_cases c3 : (c : Int) < 128
      · refine x_ifT (decide_eq_true c3) ?_
        rw [decide_eq_true (show c < 128 by omega), Bool.true_or] at fin1
        exact fin1
      · refine x_ifF (decide_eq_false c3) ?_
        rw [decide_eq_false (show ¬ c < 128 by omega), Bool.false_or] at fin1
        walk_at "go"
        exact fin1
    | false =>
      rw [ha, Bool.false_and, Bool.false_or] at fin1
      refine x_ifF rfl ?_
      walk_at "go"
      refine x_ifF rfl ?_
      walk_at "go"
      exact fin1
  · have e3 : t.cps.toList.take t.cps.size = t.cps.toList := List.take_of_length_le (by rw [Array.length_toList]; exact Nat.le_refl _)
    rw [e3] at hP
    refine ⟨D, t.cps.toList.map signIn, rfl, SqL.of ?_, ?_⟩
    · rw [hD, hP, List.map_map]
      rfl
    · rw [List.all_map]
      have e2 : t.cps.toList.all (id ∘ signIn) = isName t := by
        unfold isName
        rw [show inV (.str t) [.str ".", .str ".."] = false from hi, decide_eq_true (show 1 ≤ (t.length : Int) by omega), decide_eq_true (show (t.length : Int) ≤ 8 by omega)]
        rfl
      rw [e2]
      exact q _ (s1.trans s2)
def vTold : Except Str Int → V
  | .ok i => .int i
  | .error x => .str x
def sp__law_told (K : PySem.W.Frag) : Sp := fun vs H Q E => ∃ (f : Addr) (ms : List Addr) (dv : V) (F : Fs) (p : Str), vs = [.ref f, .str p] ∧ FilesAt K ms H f dv F ∧ Clo F.S ∧ p.length ≤ 100000 ∧ (∀ x, findF F.S p = .error x → x ∈ ten) ∧ ∀ H', Same H H' → Q (vTold (findF F.S p)) H'
def t__law_told (K : PySem.W.Frag) (E : XK) (W : WX) : TS := uTryAs K (.ref (He.ga K "StillError")) 2 (fun W1 => uRet (uMethW (He.ga K "Files") "find" (sp_Files_find K) W1 (tVar 0) (uCons (tVar 1) uNil))) (fun a cls d => uRet (uWordS K a cls d (uCons (tVar 2) uNil))) W
theorem pure__law_told {K : PySem.W.Frag} (X : XK10 K) {vs : List V} {H : Hp} {Q : VK} {E : XK} (h : sp__law_told K vs H Q E) : t__law_told K E (WE1 E) (fin Q) (start ["_law_files", "_law_path_here", "_law_e"] vs) H := by
  obtain ⟨f, ms, dv, F, p, rfl, FA, c, hp, hx, q⟩ := h
  obtain ⟨dx, s0, kp0, us, h1, h2, h3, h4⟩ := id FA.o
  show t__law_told K E _ (fin Q) [some (.ref f), some (.str p), none] H
  unfold t__law_told
  walk_at "go"
  refine x_meth_Files_find h1 ?_
  walk_at "go"
  refine ⟨f, ms, dv, F, p, rfl, FA, c, hp, ?_⟩
  cases e : findF F.S p with
  | ok i =>
    intro H1 s1
    rw [e] at q
    exact q H1 s1
  | error x =>
    intro H1 s1
    rw [e] at q
    show wAs K _ _ _ _ _ _ _ _ _
    refine x_wAsT (X.exmS x (hx x e)) fun a na => ?_
    walk_at "go"
    refine ⟨x, hx x e, rfl, rfl, rfl, fun H3 s3 => ?_⟩
    walk_at "go"
    exact q H3 (s1.trans s3)
/-- the tree that the law holds -/
def tr0 : List (Str × Int) := [("a", 1), ("b", 2), ("...", 3)]
def tr1 : List (Str × Int) := [("a", 4), ("file", 5), ("A.-_9zZ0", 6)]
def tr4 : List (Str × Int) := [("a", 7)]
def sp__law_tree (K : PySem.W.Frag) : Sp := fun vs H Q E => vs = [] ∧ ∀ a d0 d1 d4 d7 H', Same H H' → H' a = some (.dK [(Sum.inl 0, .ref d0), (Sum.inl 1, .ref d1), (Sum.inl 4, .ref d4), (Sum.inl 7, .ref d7)]) → H' d0 = some (.dK (ek tr0)) → H' d1 = some (.dK (ek tr1)) → H' d4 = some (.dK (ek tr4)) → H' d7 = some (.dK []) → Q (.ref a) H'
def t__law_tree (K : PySem.W.Frag) (W : WX) : TS := uRet (tDisp [(uC (.int 0), tDisp [(uC (.str "a"), uC (.int 1)), (uC (.str "b"), uC (.int 2)), (uC (.str "..."), uC (.int 3))]), (uC (.int 1), tDisp [(uC (.str "a"), uC (.int 4)), (uC (.str "file"), uC (.int 5)), (uC (.str "A.-_9zZ0"), uC (.int 6))]), (uC (.int 4), tDisp [(uC (.str "a"), uC (.int 7))]), (uC (.int 7), tDNewK)])
theorem pure__law_tree {K : PySem.W.Frag} {vs : List V} {H : Hp} {Q : VK} {E : XK} (h : sp__law_tree K vs H Q E) : t__law_tree K (WE1 E) (fin Q) (start [] vs) H := by
  obtain ⟨rfl, q⟩ := h
  show t__law_tree K _ (fin Q) [] H
  unfold t__law_tree
  walk_at "go"
  refine fun a na => ?_
  have sa : Same H (upd H a (.dK [])) := Same.new na
  have ha : (upd H a (.dK [])) a = some (.dK []) := upd_same
  generalize upd H a (.dK []) = H1 at sa ha
  simp only [tPairs]
  refine fun d0 n0 => ?_
  simp only [tPairs]
  refine ⟨upd_same, ek tr0, rfl, Nat.le_of_ble_eq_true rfl, ?_⟩
  rw [show mergeK [] (ek tr0) = ek tr0 from by decide +kernel]
  have s0 : Same H1 (upd (upd H1 d0 (.dK [])) d0 (.dK (ek tr0))) := updNew n0 (Same.new n0)
  have h0 : (upd (upd H1 d0 (.dK [])) d0 (.dK (ek tr0))) d0 = some (.dK (ek tr0)) := upd_same
  generalize upd (upd H1 d0 (.dK [])) d0 (.dK (ek tr0)) = H2 at s0 h0
  refine fun d1 n1 => ?_
  simp only [tPairs]
  refine ⟨upd_same, ek tr1, rfl, Nat.le_of_ble_eq_true rfl, ?_⟩
  rw [show mergeK [] (ek tr1) = ek tr1 from by decide +kernel]
  have s1 : Same H2 (upd (upd H2 d1 (.dK [])) d1 (.dK (ek tr1))) := updNew n1 (Same.new n1)
  have h1 : (upd (upd H2 d1 (.dK [])) d1 (.dK (ek tr1))) d1 = some (.dK (ek tr1)) := upd_same
  generalize upd (upd H2 d1 (.dK [])) d1 (.dK (ek tr1)) = H3 at s1 h1
  refine fun d4 n4 => ?_
  simp only [tPairs]
  refine ⟨upd_same, ek tr4, rfl, Nat.le_of_ble_eq_true rfl, ?_⟩
  rw [show mergeK [] (ek tr4) = ek tr4 from by decide +kernel]
  have s4 : Same H3 (upd (upd H3 d4 (.dK [])) d4 (.dK (ek tr4))) := updNew n4 (Same.new n4)
  have h4 : (upd (upd H3 d4 (.dK [])) d4 (.dK (ek tr4))) d4 = some (.dK (ek tr4)) := upd_same
  generalize upd (upd H3 d4 (.dK [])) d4 (.dK (ek tr4)) = H4 at s4 h4
  refine w_dnew fun d7 H5 n7 h7 s7 => ?_
  have s15 : Same H1 H5 := ((s0.trans s1).trans s4).trans s7
  have na' : ∀ {x o}, H5 x = some o → o ≠ .dK [] → x ≠ a := fun e hn z => by
    rw [z, s15 _ _ ha] at e
    exact hn (Option.some.inj e).symm
  refine ⟨s15 _ _ ha, [(Sum.inl 0, .ref d0), (Sum.inl 1, .ref d1), (Sum.inl 4, .ref d4), (Sum.inl 7, .ref d7)], rfl, Nat.le_of_ble_eq_true rfl, ?_⟩
  have g0 := s7 _ _ (s4 _ _ (s1 _ _ h0))
  have g1 := s7 _ _ (s4 _ _ h1)
  have g4 := s7 _ _ h4
  have n7a : d7 ≠ a := fun z => by
    rw [z] at n7
    exact absurd n7 (noneSome (((s0.trans s1).trans s4) _ _ ha))
  refine q a d0 d1 d4 d7 _ (updNew na (sa.trans s15)) upd_same ?_ ?_ ?_ ?_
  · rw [upd_ne (na' g0 (by intro z; cases z))]; exact g0
  · rw [upd_ne (na' g1 (by intro z; cases z))]; exact g1
  · rw [upd_ne (na' g4 (by intro z; cases z))]; exact g4
  · rw [upd_ne n7a]; exact h7
def trOf (n : Int) : Option (List (Str × Int)) := if n = 0 then some tr0 else if n = 1 then some tr1 else if n = 4 then some tr4 else if n = 7 then some [] else none
def stepT (n : Int) (z : Str) : Except Str Int := match trOf n with
  | none => .error "NoDirectory"
  | some es => match lk es z with
    | none => .error "NoThing"
    | some i => .ok i
def walkT : Int → List Str → Except Str Int
  | n, [] => .ok n
  | n, z :: r => match stepT n z with
    | .ok i => walkT i r
    | .error x => .error x
def dueF (p : Str) : Except Str Int := match partsOf p with
  | none => .error "BadName"
  | some ns => walkT 0 ns
theorem walkT_snoc {z : Str} : ∀ {ns : List Str} {n : Int}, walkT n (ns ++ [z]) = (match walkT n ns with
    | .ok i => stepT i z
    | .error x => .error x)
  | [], n => by
    show walkT n [z] = stepT n z
    unfold walkT
    split
    · rename_i i e
      rw [e]
      rfl
    · rename_i x e
      rw [e]
  | y :: r, n => by
    show walkT n (y :: (r ++ [z])) = _
    unfold walkT
    split
    · rename_i i e
      exact walkT_snoc
    · rfl
theorem walkT_err {x : Str} {r : List Str} : ∀ {ns : List Str} {n : Int}, walkT n ns = .error x → walkT n (ns ++ r) = .error x
  | [], n, h => by cases h
  | y :: t, n, h => by
    show walkT n (y :: (t ++ r)) = _
    unfold walkT at h ⊢
    split
    · rename_i i e
      rw [e] at h
      exact walkT_err h
    · rename_i w e
      rw [e] at h
      exact h
theorem first_slash {p : Str} : cutS p none (some 1) = "/" ↔ ∃ r, TL.tl p = 47 :: r := by
  have e : cutS p none (some 1) = ⟨((TL.tl p).take 1).toArray⟩ := by
    unfold cutS HT.sIx
    show (⟨((p.cps.toList.drop 0).take (min (Int.toNat 1) p.length - 0)).toArray⟩ : Str) = ⟨(p.cps.toList.take 1).toArray⟩
    rw [List.drop_zero, Nat.sub_zero]
    have hl : p.cps.toList.length = p.length := Array.length_toList
    congr 2
    cases hp : p.cps.toList with
    | nil => simp
    | cons a r =>
      rw [hp, List.length_cons] at hl
      have : min (Int.toNat 1) p.length = 1 := by show min 1 p.length = 1; omega
      rw [this]
  rw [e]
  constructor
  · intro h
    have h2 : ((TL.tl p).take 1) = [47] := congrArg TL.tl h
    cases hp : TL.tl p with
    | nil => rw [hp] at h2; cases h2
    | cons a r =>
      rw [hp] at h2
      have : a = 47 := by simpa using h2
      exact ⟨r, by rw [this]⟩
  · rintro ⟨r, h⟩
    rw [h]
    rfl
theorem rest_tl {p : Str} {c : Nat} {r : List Nat} (h : TL.tl p = c :: r) : TL.tl (restOf p) = r := by
  unfold restOf cutS HT.sIx
  have hl : (TL.tl p).length = p.length := Array.length_toList
  rw [h, List.length_cons] at hl
  have e1 : min (Int.toNat 1) p.length = 1 := by show min 1 p.length = 1; omega
  show ((TL.tl p).drop (min (Int.toNat 1) p.length)).take (p.length - min (Int.toNat 1) p.length) = r
  rw [e1, h]
  show r.take _ = r
  exact List.take_of_length_le (by omega)
/-- the law's own look at a path is the program's -/
theorem parts_due {p : Str} (h0 : p ≠ "/") : ∃ a ns, Txt.split p "/" = a :: ns ∧ (60 < (p.length : Int) ∨ ns = [] ∨ a ≠ "" → partsOf p = none) ∧
    (¬ 60 < (p.length : Int) → ns ≠ [] → a = "" → partsOf p = if ns.all isName = true then some ns else none) := by
  have hp : partsOf p = if (60 < (p.length : Int)) ∨ cutS p none (some 1) ≠ "/" then none else if (Txt.split (restOf p) "/").all isName = true then some (Txt.split (restOf p) "/") else none := by
    unfold partsOf
    rw [if_neg h0]
  cases ht : TL.tl p with
  | nil =>
    have : p = "" := TL.ext_tl ht
    subst this
    refine ⟨"", [], split_nil, fun _ => ?_, fun _ z _ => absurd rfl z⟩
    rw [hp, if_pos (.inr (by decide +kernel))]
  | cons c r =>
    by_cases hc : c = 47
    · subst hc
      have e := split_cons p (restOf p) (by rw [rest_tl ht, ht])
      have ne : Txt.split (restOf p) "/" ≠ [] := fun z => by
        have := split_tl (restOf p)
        rw [z] at this
        obtain ⟨p', q', e'⟩ := spl_acc [] (TL.tl (restOf p))
        rw [e'] at this
        cases this
      have hs : cutS p none (some 1) = "/" := first_slash.mpr ⟨r, ht⟩
      refine ⟨_, _, e, fun h => ?_, fun h1 _ _ => ?_⟩
      · rcases h with h | h | h
        · rw [hp, if_pos (.inl h)]
        · exact absurd h ne
        · exact absurd rfl h
      · rw [hp, if_neg (by rintro (z | z); exact h1 z; exact z hs)]
    · obtain ⟨a, q, e, ha⟩ := split_ne p ht hc
      refine ⟨a, q, e, fun _ => ?_, fun _ _ z => absurd z ha⟩
      have hs : cutS p none (some 1) ≠ "/" := fun z => by
        obtain ⟨r', h'⟩ := first_slash.mp z
        rw [ht] at h'
        exact hc (List.cons.inj h').1
      rw [hp, if_pos (.inr hs)]
def sp__law_due (K : PySem.W.Frag) : Sp := fun vs H Q E => ∃ p : Str, vs = [.str p] ∧ p.length ≤ 1000 ∧ ∀ H', Same H H' → Q (vTold (dueF p)) H'
def t__law_due (K : PySem.W.Frag) (W : WX) : TS := uSeq (uIfS (uTest (uOp rEq (tVar 0) (uC (.str "/")))) (uRet (uC (.int 0))) uNext)
    (uSeq (uAsg (uM1 rSplitS (tVar 0) (uC (.str "/"))) (vName 1))
    (uSeq (uIfS (uOr (uTest (uOp rGtI (uCB cLenS (uCons (tVar 0) uNil)) (uC (.int 60)))) (uOr (uTest (uOp rLtI (uCB (cLenQ K) (uCons (tVar 1) uNil)) (uC (.int 2)))) (uOr (uTest (uOp rNe (uOp (rIxL K) (tVar 1) (uC (.int 0))) (uC (.str "")))) (uNot (uTest (uCB (rAll K) (uCons (uLc (jList K (uSl (rSlL K) (tVar 1) (uPart (uC (.int 1))) uNoPart)) (vName 5) tYes (uCallW (sp__law_is_name K) W0 (uCons (tVar 5) uNil)) [5]) uNil))))))) (uRet (uC (.str "BadName"))) uNext)
    (uSeq (uAsg (uC (.int 0)) (vName 2))
    (uSeq (uFor (jList K (uSl (rSlL K) (tVar 1) (uPart (uC (.int 1))) uNoPart)) (vName 3) (uSeq (uAsg (uDGet1 (uCallW (sp__law_tree K) W uNil) (tVar 2)) (vName 4))
    (uSeq (uIfS (uTest (uOp rIsN (tVar 4) (uC .non))) (uRet (uC (.str "NoDirectory"))) uNext)
    (uSeq (uIfS (uTest (uDNotIn (tVar 3) (tVar 4))) (uRet (uC (.str "NoThing"))) uNext)
    (uAsg (uDGet (tVar 4) (tVar 3)) (vName 2))))))
    (uRet (tVar 2))))))
theorem pure__law_due {K : PySem.W.Frag} {vs : List V} {H : Hp} {Q : VK} {E : XK} (h : sp__law_due K vs H Q E) : t__law_due K (WE1 E) (fin Q) (start ["_law_path_here", "_law_names", "_law_number", "_law_name", "_law_entries", "_law_one"] vs) H := by
  obtain ⟨p, rfl, hl, q⟩ := h
  have hz : p.length ≤ sizeLine := Nat.le_trans hl (by rw [sizeLine_eq]; decide)
  show t__law_due K _ (fin Q) [some (.str p), none, none, none, none, none] H
  unfold t__law_due
  walk_at "go"
  by_cases c0 : p = "/"
  · refine x_ifT (decide_eq_true c0) ?_
    walk_at "go"
    have e : dueF p = .ok 0 := by
      unfold dueF partsOf
      rw [if_pos c0]
      rfl
    rw [e] at q
    exact q H (Same.refl H)
  refine x_ifF (decide_eq_false c0) ?_
  walk_at "go"
  refine x_m1 ?_
  walk_at "go"
  refine x_split rfl (by rw [sizeLine_eq]; omega) fun a H1 na ha s1 => ?_
  have sl := split_len hl
  obtain ⟨z0, ns, en, hbad, hgood⟩ := parts_due c0
  rw [en] at ha sl
  have ln : ∀ y ∈ ns, y.length ≤ 100000 := fun y hy => sl y (List.mem_cons_of_mem _ hy)
  have bad : partsOf p = none → ∀ H', Same H H' → Q (.str "BadName") H' := fun e H' s => by
    have e2 : dueF p = .error "BadName" := by unfold dueF; rw [e]
    rw [e2] at q
    exact q H' s
  walk_at "go"
  refine x_lenS hz ?_
  walk_at "go"
  by_cases c1 : 60 < (p.length : Int)
  · refine x_ifT (decide_eq_true c1) ?_
    walk_at "go"
    refine x_ifT rfl ?_
    walk_at "go"
    exact bad (hbad (.inl c1)) _ s1
  refine x_ifF (decide_eq_false c1) ?_
  walk_at "go"
  refine x_lenL ha ?_
  rw [List.length_map, List.length_cons]
  walk_at "go"
  by_cases c2 : ns = []
  · subst c2
    refine x_ifT rfl ?_
    walk_at "go"
    refine x_ifT rfl ?_
    walk_at "go"
    exact bad (hbad (.inr (.inl rfl))) _ s1
  refine x_ifF (decide_eq_false (by have := List.length_pos_iff.mpr c2; omega)) ?_
  walk_at "go"
  refine x_ixL (v := .str z0) (SqL.of ha) (atI_of (by decide) rfl) ?_
  walk_at "go"
  by_cases c3 : z0 = ""
  rotate_left
  · refine x_ifT (by rw [decide_eq_false c3]; rfl) ?_
    walk_at "go"
    refine x_ifT rfl ?_
    walk_at "go"
    exact bad (hbad (.inr (.inr c3))) _ s1
  refine x_ifF (by rw [decide_eq_true c3]; rfl) ?_
  have gd := hgood c1 c2 c3
  walk_at "go"
  have ecut : cutV ((z0 :: ns).map V.str) (some 1) none = ns.map V.str := by
    rw [show (1 : Int) = ((1 : Nat) : Int) from rfl, cutV_from]
    rfl
  refine x_slL (SqL.of ha) fun b H2 nb hb s2 => ?_
  rw [ecut] at hb
  refine x_ilist (SqL.of hb) ?_
  have lns : ns.length ≤ 100000 := by
    have := split_le p "/"
    rw [en, List.length_cons] at this
    omega
  refine x_lcW (walk_list (xs := ns.map V.str)) (fun i acc _ => acc = (ns.take i).map fun z => V.bl (isName z)) (fun _ _ _ _ _ h => h) (fun H' s => SqL.of (s _ _ hb)) (by rw [List.length_map]; exact lns) rfl (fun i x D H' H'' acc P P0 hi nD hD s3 hP hY k1 k2 => ?_) (fun D H' acc nD hD lA s3 hP => ?_)
  · obtain ⟨rfl, hx⟩ := hY
    rw [List.getElem?_map] at hx
    obtain ⟨z, hz', rfl⟩ := Option.map_eq_some_iff.mp hx
    refine ⟨rfl, ?_⟩
    refine x_yes ?_
    refine x_ifT rfl ?_
    walk_at "go"
    refine ⟨z, rfl, ln z (List.mem_of_getElem? hz'), fun H3 s4 => ?_⟩
    refine k1 _ _ s4 ?_
    subst hP
    rw [take_snoc hz', List.map_append]
    rfl
  · rw [List.length_map, List.take_length] at hP
    have s13 := (s1.trans s2).trans s3
    refine ⟨D, ns.map isName, rfl, SqL.of ?_, ?_⟩
    · rw [hD, hP, List.map_map]
      rfl
    walk_at "go"
    have eall : (ns.map isName).all id = ns.all isName := by rw [List.all_map]; rfl
    rw [eall]
    by_cases c4 : ns.all isName = true
    rotate_left
    · have c4 : ns.all isName = false := by simpa using c4
      refine x_ifT (by rw [c4]; rfl) ?_
      walk_at "go"
      exact bad (by rw [gd, if_neg (by rw [c4]; decide)]) _ s13
    refine x_ifF (by rw [c4]; rfl) ?_
    rw [if_pos c4] at gd
    have ed : dueF p = walkT 0 ns := by unfold dueF; rw [gd]
    rw [ed] at q
    walk_at "go"
    refine x_slL (SqL.of ((s2.trans s3) _ _ ha)) fun b2 H3 nb2 hb2 s4 => ?_
    rw [ecut] at hb2
    have s14 := s13.trans s4
    refine x_ilist (SqL.of hb2) ?_
    refine x_forL (xs := ns.map V.str) (fun i σ H' => (∃ n o3 o4, σ = [some (.str p), some (.ref a), some (.int n), o3, o4, none] ∧ walkT 0 (ns.take i) = .ok n) ∧ Same H3 H') ⟨⟨0, none, none, rfl, rfl⟩, Same.refl _⟩ (fun i σ H' _ h => SqL.of (h.2 _ _ hb2)) (fun i x σ H' hx h => ?_) (fun σ H' h => ?_)
    · obtain ⟨⟨n, o3, o4, rfl, hw⟩, s⟩ := h
      rw [List.getElem?_map] at hx
      obtain ⟨z, hz', rfl⟩ := Option.map_eq_some_iff.mp hx
      have hw2 : walkT 0 (ns.take (i + 1)) = stepT n z := by rw [take_snoc hz', walkT_snoc, hw]
      have err : ∀ x, stepT n z = .error x → walkT 0 ns = .error x := fun x e => by
        rw [e] at hw2
        have := walkT_err (r := ns.drop (i + 1)) hw2
        rwa [List.take_append_drop] at this
      walk_at "go"
      refine ⟨rfl, fun t d0 d1 d4 d7 H4 s5 ht h0 h1 h4 h7 => ?_⟩
      have s15 := (s14.trans s).trans s5
      refine ⟨t, rfl, .inl ⟨_, .inl ht⟩, ?_⟩
      walk_at "go"
      refine ⟨_, dget_rd (.inl ht) (k := Sum.inl n) rfl rfl, ?_⟩
      have look : (trOf n = none ∧ valV [((Sum.inl 0 : Key), V.ref d0), (Sum.inl 1, .ref d1), (Sum.inl 4, .ref d4), (Sum.inl 7, .ref d7)] (Sum.inl n) = none) ∨ ∃ es d, trOf n = some es ∧ valV [((Sum.inl 0 : Key), V.ref d0), (Sum.inl 1, .ref d1), (Sum.inl 4, .ref d4), (Sum.inl 7, .ref d7)] (Sum.inl n) = some (.ref d) ∧ H4 d = some (.dK (ek es)) := by
        by_cases e0 : n = 0
        · subst e0
          exact .inr ⟨_, _, rfl, rfl, h0⟩
        by_cases e1 : n = 1
        · subst e1
          exact .inr ⟨_, _, rfl, rfl, h1⟩
        by_cases e4 : n = 4
        · subst e4
          exact .inr ⟨_, _, rfl, rfl, h4⟩
        by_cases e7 : n = 7
        · subst e7
          exact .inr ⟨_, _, rfl, rfl, h7⟩
        refine .inl ⟨by unfold trOf; rw [if_neg e0, if_neg e1, if_neg e4, if_neg e7], ?_⟩
        rw [valV_neg (by intro z; cases z; exact e0 rfl), valV_neg (by intro z; cases z; exact e1 rfl), valV_neg (by intro z; cases z; exact e4 rfl), valV_neg (by intro z; cases z; exact e7 rfl)]
        rfl
      rcases look with ⟨et, ev⟩ | ⟨es, d, et, ev, hd⟩
      · rw [ev]
        walk_at "go"
        refine x_ifT rfl ?_
        walk_at "go"
        rw [err "NoDirectory" (by unfold stepT; rw [et])] at q
        exact q _ s15
      · rw [ev]
        walk_at "go"
        refine x_ifF rfl ?_
        walk_at "go"
        refine x_dni (.inl hd) (k := Sum.inr z) rfl (b := (lk es z).isSome) (by rw [ek_get, Option.isSome_map]) ?_
        walk_at "go"
        have ew : stepT n z = match lk es z with | none => .error "NoThing" | some i => .ok i := by
          unfold stepT
          rw [et]
        cases ez : lk es z with
        | none =>
          rw [ez] at ew
          refine x_ifT rfl ?_
          walk_at "go"
          rw [err "NoThing" ew] at q
          exact q _ s15
        | some j =>
          rw [ez] at ew
          refine x_ifF rfl ?_
          walk_at "go"
          refine x_dget (.inl hd) (k := Sum.inr z) rfl (by rw [ek_get, ez]; rfl) ?_
          walk_at "go"
          exact ⟨⟨j, _, _, rfl, by rw [hw2, ew]⟩, s.trans s5⟩
    · obtain ⟨⟨n, o3, o4, rfl, hw⟩, s⟩ := h
      walk_at "go"
      rw [List.length_map, List.take_length] at hw
      rw [hw] at q
      exact q _ (s14.trans s)
/-! ### a path, whichever -/
def sp__law_path (K : PySem.W.Frag) : Sp := fun vs H Q E => ∃ (c m : Int), vs = [.int c, .int m] ∧ 0 ≤ m ∧ ∀ p : Str, p.length ≤ 1000 → ∀ H', Same H H' → Q (.str p) H'
def t__law_path (K : PySem.W.Frag) (W : WX) : TS := uSeq (uAsg (uLst (uCons (uC (.str "a")) (uCons (uC (.str "b")) (uCons (uC (.str "...")) (uCons (uC (.str "file")) (uCons (uC (.str "A.-_9zZ0")) (uCons (uC (.str "x")) (uCons (uC (.str ".")) (uCons (uC (.str "..")) (uCons (uC (.str "")) (uCons (uC (.str "abcdefgh")) (uCons (uC (.str "abcdefghi")) (uCons (uC (.str "a b")) (uCons (uC (.str "~")) (uCons (uC (.str "$")) (uCons (uC (.str "aa")) uNil)))))))))))))))) (vName 2))
    (uSeq (uIfS (uTest (uOp rEq (uOp rModI (tVar 1) (uC (.int 6))) (uC (.int 0)))) (uRet (uOp (rIxL K) (uLst (uCons (uC (.str "/")) (uCons (uC (.str "")) (uCons (uC (.str "a")) (uCons (uC (.str "//")) (uCons (uC (.str "/a/")) (uCons (uC (.str "a/b")) (uCons (uOp rAddS (uOp rAddS (uC (.str "/")) (uOp rMulS (uC (.str "a/")) (uC (.int 29)))) (uC (.str "a"))) (uCons (uOp rAddS (uOp rAddS (uC (.str "/")) (uOp rMulS (uC (.str "a/")) (uC (.int 30)))) (uC (.str "a"))) uNil))))))))) (uOp rModI (uOp rDivI (tVar 1) (uC (.int 6))) (uC (.int 8))))) uNext)
    (uSeq (uIfS (uTest (uOp rEq (uOp rModI (tVar 1) (uC (.int 6))) (uC (.int 1)))) (uSeq (uAsg (uC (.str " !&()*+,-./0129:;<=>?@AZ[]^_az{|}~")) (vName 5))
    (uRet (uOp rAddS (uC (.str "/")) (uM1 (rJoinS K) (uC (.str "")) (uLc (jRng1 (uCons (uOp rModI (uOp rDivI (tVar 1) (uC (.int 6))) (uC (.int 5))) uNil)) (vName 4) tYes (uOp rIxS (tVar 5) (uOp rModI (uOp rDivI (tVar 1) (uOp rAddI (uOp rMulI (tVar 4) (uC (.int 37))) (uC (.int 6)))) (uCB cLenS (uCons (tVar 5) uNil)))) [4]))))) uNext)
    (uSeq (uAsg (uC (.str "")) (vName 3))
    (uSeq (uFor (jRng1 (uCons (uOp rAddI (uC (.int 1)) (uOp rModI (uOp rDivI (tVar 1) (uC (.int 6))) (uC (.int 4)))) uNil)) (vName 4) (uAsg (uOp rAddS (uOp rAddS (tVar 3) (uC (.str "/"))) (uOp (rIxL K) (tVar 2) (uOp rModI (uOp rDivI (tVar 1) (uOp rMulI (uC (.int 97)) (uOp rAddI (uOp rMulI (tVar 4) (tVar 4)) (uC (.int 1))))) (uOp (rIxL K) (uLst (uCons (uC (.int 3)) (uCons (uC (.int 5)) (uCons (uC (.int 15)) uNil)))) (uOp rModI (uOp rDivI (tVar 1) (uC (.int 31))) (uC (.int 3))))))) (vName 3)))
    (uRet (tVar 3))))))
def pNames : List Str := ["a", "b", "...", "file", "A.-_9zZ0", "x", ".", "..", "", "abcdefgh", "abcdefghi", "a b", "~", "$", "aa"]
def pOdd : List Str := ["/", "", "a", "//", "/a/", "a/b", "/" ++ repS "a/" 29 ++ "a", "/" ++ repS "a/" 30 ++ "a"]
theorem repS_len (z : Str) (k : Nat) : (repS z k).length = k * z.length := by
  show ((List.replicate k z.cps).foldl (· ++ ·) #[]).size = _
  rw [repS_size]
  show 0 + k * z.cps.size = k * z.cps.size
  omega
theorem app_len (a b : Str) : (a ++ b).length = a.length + b.length := Array.size_append
theorem pOdd_len : ∀ z ∈ pOdd, z.length ≤ 100 := fun z hz => by
  unfold pOdd at hz
  simp only [List.mem_cons, List.not_mem_nil, or_false] at hz
  rcases hz with h | h | h | h | h | h | h | h
  all_goals subst h
  all_goals first
    | (exact Nat.le_of_ble_eq_true rfl)
    | (rw [app_len, app_len, repS_len]; exact Nat.le_of_ble_eq_true rfl)
theorem pure__law_path {K : PySem.W.Frag} {vs : List V} {H : Hp} {Q : VK} {E : XK} (h : sp__law_path K vs H Q E) : t__law_path K (WE1 E) (fin Q) (start ["_law_cell_here", "_law_more", "_law_names", "_law_path_here", "_law_k", "_law_signs"] vs) H := by
  obtain ⟨c, m, rfl, hm, q⟩ := h
  show t__law_path K _ (fin Q) [some (.int c), some (.int m), none, none, none, none] H
  unfold t__law_path
  walk_at "go"
  refine x_lst fun l H1 nl hl s1 => ?_
  have hl : H1 l = some (.lst (pNames.map V.str)) := hl
  walk_at "go"
  refine x_modI (by decide) ?_
  walk_at "go"
  by_cases c0 : m % 6 = 0
  · refine x_ifT (decide_eq_true c0) ?_
    walk_at "go"
    refine ⟨"a/", 29, rfl, rfl, by decide, by decide, by decide, by decide, ?_⟩
    refine x_addS (by rw [repS_len, sizeLine_eq]; exact Nat.le_of_ble_eq_true rfl) ?_
    walk_at "go"
    refine x_addS (by rw [app_len, repS_len, sizeLine_eq]; exact Nat.le_of_ble_eq_true rfl) ?_
    walk_at "go"
    refine ⟨"a/", 30, rfl, rfl, by decide, by decide, by decide, by decide, ?_⟩
    refine x_addS (by rw [repS_len, sizeLine_eq]; exact Nat.le_of_ble_eq_true rfl) ?_
    walk_at "go"
    refine x_addS (by rw [app_len, repS_len, sizeLine_eq]; exact Nat.le_of_ble_eq_true rfl) ?_
    walk_at "go"
    refine x_lst fun l2 H2 n2 h2 s2 => ?_
    have h2 : H2 l2 = some (.lst (pOdd.map V.str)) := h2
    walk_at "go"
    refine x_divI ⟨by decide, by decide⟩ ?_
    walk_at "go"
    refine x_modI (by decide) ?_
    refine x_ixStr h2 (Int.emod_nonneg _ (by decide)) (Int.emod_lt_of_pos _ (by decide)) fun z hz => ?_
    exact q z (Nat.le_trans (pOdd_len z hz) (by decide)) _ (s1.trans s2)
  refine x_ifF (decide_eq_false c0) ?_
  walk_at "go"
  refine x_modI (by decide) ?_
  walk_at "go"
  by_cases c1 : m % 6 = 1
  · refine x_ifT (decide_eq_true c1) ?_
    walk_at "go"
    refine x_m1 ?_
    walk_at "go"
    refine x_divI ⟨by decide, by decide⟩ ?_
    walk_at "go"
    refine x_modI (by decide) ?_
    have n0 := Int.emod_nonneg (m / 6) (show (5 : Int) ≠ 0 by decide)
    have n1 := Int.emod_lt_of_pos (m / 6) (show (0 : Int) < 5 by decide)
    generalize m / 6 % 5 = n at n0 n1
    walk_at "go"
    refine x_rng1 (by omega) (by omega) ?_
    refine x_lcR (n := n.toNat) (fun i y _ => ∃ cc : Nat, y = .str ⟨#[cc]⟩) (fun _ _ _ _ _ h => h) (by omega) (fun i A H2 P hi nA hA s2 hP => ⟨rfl, ?_⟩) (fun A H2 acc nA hA lA s2 hacc => ?_)
    · walk_at "go"
      refine x_mulI (.inr ⟨by decide, by decide⟩) ?_
      walk_at "go"
      refine x_divI ⟨by omega, by omega⟩ ?_
      walk_at "go"
      refine x_lenS (by rw [sizeLine_eq]; exact Nat.le_of_ble_eq_true rfl) ?_
      walk_at "go"
      have hp : (0 : Int) < ((" !&()*+,-./0129:;<=>?@AZ[]^_az{|}~" : Str).length : Int) := by decide
      refine x_modI hp ?_
      have j0 := Int.emod_nonneg (m / ((0 + (i : Int)) * 37 + 6)) (Int.ne_of_gt hp)
      have j1 := Int.emod_lt_of_pos (m / ((0 + (i : Int)) * 37 + 6)) hp
      generalize m / ((0 + (i : Int)) * 37 + 6) % _ = j at j0 j1
      have hj : j.toNat < (" !&()*+,-./0129:;<=>?@AZ[]^_az{|}~" : Str).cps.toList.length := by
        rw [Array.length_toList]
        show j.toNat < Str.length _
        omega
      refine ⟨_, j, _, rfl, rfl, by rw [sizeLine_eq]; exact Nat.le_of_ble_eq_true rfl, atI_of j0 (List.getElem?_eq_getElem hj), ?_⟩
      exact hP _ H2 (Same.refl _) ⟨_, rfl⟩
    · have ex : ∃ ys : List Str, acc = ys.map V.str ∧ (ys.map (·.length)).sum = acc.length := by
        clear lA hA
        induction acc with
        | nil => exact ⟨[], rfl, rfl⟩
        | cons y r ih =>
          obtain ⟨cc, e⟩ := hacc 0 y rfl
          obtain ⟨ys, e1, e2⟩ := ih fun i y' h => hacc (i + 1) y' (by simpa using h)
          refine ⟨⟨#[cc]⟩ :: ys, by rw [e, e1]; rfl, ?_⟩
          rw [List.map_cons, List.sum_cons, e2, List.length_cons]
          show 1 + _ = _
          omega
      obtain ⟨ys, e1, e2⟩ := ex
      subst e1
      refine x_join hA (by rw [e2, lA]; show _ + _ * 0 ≤ _; omega) ?_
      have hlen : (Txt.join "" ys).length ≤ 5 := by rw [join_len, e2, lA]; omega
      refine x_addS (by rw [sizeLine_eq]; show 1 + _ ≤ _; omega) ?_
      exact q _ (by rw [app_len]; show 1 + _ ≤ _; omega) _ (s1.trans s2)
  refine x_ifF (decide_eq_false c1) ?_
  walk_at "go"
  refine x_divI ⟨by decide, by decide⟩ ?_
  walk_at "go"
  refine x_modI (by decide) ?_
  walk_at "go"
  have n0 := Int.emod_nonneg (m / 6) (show (4 : Int) ≠ 0 by decide)
  have n1 := Int.emod_lt_of_pos (m / 6) (show (0 : Int) < 4 by decide)
  generalize m / 6 % 4 = n at n0 n1
  refine x_rng1 (by omega) (by omega) ?_
  refine x_forR (fun i σ H' => (∃ p o, σ = [some (.int c), some (.int m), some (.ref l), some (.str p), o, none] ∧ p.length ≤ 10 * i) ∧ Same H1 H') ⟨⟨"", _, rfl, Nat.le_refl _⟩, Same.refl _⟩ (fun i σ H' hi h => ?_) (fun σ H' h => ?_)
  · obtain ⟨⟨p, o, rfl, hp⟩, s⟩ := h
    have hi4 : i < 4 := by omega
    walk_at "go"
    refine x_addS (by rw [sizeLine_eq]; show _ + 1 ≤ _; omega) ?_
    walk_at "go"
    refine x_mulI (.inr ⟨by omega, by omega⟩) ?_
    walk_at "go"
    refine x_mulI (.inl ⟨by decide, by decide⟩) ?_
    have kk : 0 ≤ (0 + (i : Int)) * (0 + (i : Int)) ∧ (0 + (i : Int)) * (0 + (i : Int)) ≤ 9 := by
      have : i = 0 ∨ i = 1 ∨ i = 2 ∨ i = 3 := by omega
      rcases this with rfl | rfl | rfl | rfl <;> decide
    generalize (0 + (i : Int)) * (0 + (i : Int)) = kq at kk
    refine x_divI ⟨by omega, by omega⟩ ?_
    walk_at "go"
    refine x_lst fun l3 H3 n3 h3 s3 => ?_
    walk_at "go"
    refine x_divI ⟨by decide, by decide⟩ ?_
    walk_at "go"
    refine x_modI (by decide) ?_
    refine x_ixInt (xs := [3, 5, 15]) h3 (Int.emod_nonneg _ (by decide)) (Int.emod_lt_of_pos _ (by decide)) fun w hw => ?_
    have hw : 0 < w ∧ w ≤ 15 := by
      simp only [List.mem_cons, List.not_mem_nil, or_false] at hw
      omega
    refine x_modI hw.1 ?_
    have j0 := Int.emod_nonneg (m / (97 * (kq + 1))) (Int.ne_of_gt hw.1)
    have j1 := Int.emod_lt_of_pos (m / (97 * (kq + 1))) hw.1
    refine x_ixStr (s3 _ _ (s _ _ hl)) j0 (by show _ < (15 : Int); omega) fun z hz => ?_
    have hz9 : z.length ≤ 9 := by
      have : ∀ z ∈ pNames, z.length ≤ 9 := by decide +kernel
      exact this z hz
    refine x_addS (by rw [sizeLine_eq, app_len]; show _ + 1 + _ ≤ _; omega) ?_
    walk_at "go"
    refine ⟨⟨_, _, rfl, ?_⟩, s.trans s3⟩
    rw [app_len, app_len]
    show _ + 1 + _ ≤ _
    omega
  · obtain ⟨⟨p, o, rfl, hp⟩, s⟩ := h
    walk_at "go"
    exact q p (by omega) _ (s1.trans s)
/-! ### the law -/
def kP (i : Nat) : Str := (["/a", "/b", "/...", "/a/a", "/a/file", "/a/A.-_9zZ0", "/a/a/a"] : List Str).getD i ""
def kN (i : Nat) : List Str := ([["a"], ["b"], ["..."], ["a", "a"], ["a", "file"], ["a", "A.-_9zZ0"], ["a", "a", "a"]] : List (List Str)).getD i []
def kB (i : Nat) : Bool := [true, false, false, true, false, false, true].getD i true
def kL (i : Nat) : Int := [0, 0, 0, 1, 1, 1, 4].getD i 0
def kS : Nat → St
  | 0 => S0
  | i + 1 => makeS (kS i) (kL i) (i + 1) (lastOf (kN i)) (kB i)
theorem kS_ok : ∀ i, i < 8 → cloB (kS i) = true ∧ wgB (kS i) = true ∧ room (szI (kS i) []) [2] 200 = true := by decide +kernel
theorem kN_ok : ∀ i, i < 7 → partsOf (kP i) = some (kN i) ∧ leastFree (kS i) = i + 1 ∧ ((lk (kS i) (kL i)).getD thD).ents.length ≠ 40 ∧ (kP i).length ≤ 100 := by decide +kernel
def isOk (r : Except Str Int) (n : Int) : Bool := match r with
  | .ok i => decide (i = n)
  | .error _ => false
theorem isOk_ok {r : Except Str Int} {n : Int} (h : isOk r n = true) : r = .ok n := by
  match r, h with
  | .ok i, h => rw [of_decide_eq_true h]
theorem kL_ok : ∀ i, i < 7 → isOk (placeFor (kS i) (kN i)) (kL i) = true := by decide +kernel
theorem k_step (i : Nat) (hi : i < 7) (new : Bool) : makeF ⟨kS i, [], 0, 1, [2], new⟩ 200 (kP i) (kB i) = .ok (kS (i + 1), ((i + 1 : Nat) : Int)) := by
  obtain ⟨h1, h2, h3, _⟩ := kN_ok i hi
  obtain ⟨_, h5, h6⟩ := kS_ok (i + 1) (by omega)
  exact makeF_ok (F := ⟨kS i, [], 0, 1, [2], new⟩) h1 (isOk_ok (kL_ok i hi)) h2 rfl (by omega) h3 (wgB_ok h5).ws wn0 h6
theorem tr_small : ∀ es ∈ [tr0, tr1, tr4], ∀ e ∈ es, (0 : Int) ≤ e.2 ∧ e.2 ≤ 7 := by decide
theorem tr_in {n : Int} {es : List (Str × Int)} (h : trOf n = some es) {z : Str} {i : Int} (e : lk es z = some i) : 0 ≤ i ∧ i ≤ 7 := by
  have hm := lk_mem e
  unfold trOf at h
  split at h
  · cases h; exact tr_small tr0 (by simp) _ hm
  split at h
  · cases h; exact tr_small tr1 (by simp) _ hm
  split at h
  · cases h; exact tr_small tr4 (by simp) _ hm
  split at h
  · cases h; cases hm
  · cases h
theorem entry_tree {n : Int} (h0 : 0 ≤ n) (h7 : n ≤ 7) (z : Str) : entryOf (kS 7) n z = stepT n z := by
  have hn : n = 0 ∨ n = 1 ∨ n = 2 ∨ n = 3 ∨ n = 4 ∨ n = 5 ∨ n = 6 ∨ n = 7 := by omega
  have key : ∀ t, lk (kS 7) n = some t → entryOf (kS 7) n z = if t.dir = true then (match lk t.ents z with
    | none => .error "NoThing"
    | some i => .ok i) else .error "NoDirectory" := fun t e => by
    unfold entryOf
    rw [e]
    try rfl
  rcases hn with h | h | h | h | h | h | h | h
  · subst h; rw [key ⟨true, [], tr0⟩ (by decide +kernel)]; rfl
  · subst h; rw [key ⟨true, [], tr1⟩ (by decide +kernel)]; rfl
  · subst h; rw [key ⟨false, [], []⟩ (by decide +kernel)]; rfl
  · subst h; rw [key ⟨false, [], []⟩ (by decide +kernel)]; rfl
  · subst h; rw [key ⟨true, [], tr4⟩ (by decide +kernel)]; rfl
  · subst h; rw [key ⟨false, [], []⟩ (by decide +kernel)]; rfl
  · subst h; rw [key ⟨false, [], []⟩ (by decide +kernel)]; rfl
  · subst h; rw [key ⟨true, [], []⟩ (by decide +kernel)]; rfl
theorem step_in {n i : Int} {z : Str} (h : stepT n z = .ok i) : 0 ≤ i ∧ i ≤ 7 := by
  unfold stepT at h
  split at h
  · cases h
  · rename_i es e
    split at h
    · cases h
    · rename_i j e2
      cases h
      exact tr_in e e2
theorem walk_tree : ∀ (ns : List Str) (n : Int), 0 ≤ n → n ≤ 7 → walkedF (kS 7) n ns = walkT n ns
  | [], n, _, _ => rfl
  | z :: r, n, h0, h7 => by
    unfold walkedF walkT
    rw [entry_tree h0 h7]
    cases e : stepT n z with
    | error x => rfl
    | ok i => exact walk_tree r i (step_in e).1 (step_in e).2
theorem find_due (p : Str) : findF (kS 7) p = dueF p := by
  unfold findF dueF
  cases partsOf p with
  | none => rfl
  | some ns => exact walk_tree ns 0 (by decide) (by decide)
theorem step_word {n : Int} {z x : Str} (h : stepT n z = .error x) : x = "NoDirectory" ∨ x = "NoThing" := by
  unfold stepT at h
  split at h
  · cases h; exact .inl rfl
  · split at h
    · cases h; exact .inr rfl
    · cases h
theorem walkT_word : ∀ (ns : List Str) (n : Int) (x : Str), walkT n ns = .error x → x = "NoDirectory" ∨ x = "NoThing"
  | [], n, x, h => by cases h
  | z :: r, n, x, h => by
    unfold walkT at h
    cases e : stepT n z with
    | error y => rw [e] at h; cases h; exact step_word e
    | ok i => rw [e] at h; exact walkT_word r i x h
theorem due_word {p x : Str} (h : dueF p = .error x) : x ∈ ten ∧ PyData.strOk x = true := by
  unfold dueF at h
  cases e : partsOf p with
  | none => rw [e] at h; cases h; exact ⟨by decide, by decide +kernel⟩
  | some ns =>
    rw [e] at h
    rcases walkT_word ns 0 x h with z | z
    · subst z; exact ⟨by decide, by decide +kernel⟩
    · subst z; exact ⟨by decide, by decide +kernel⟩
def dTold : Except Str Int → PyData
  | .ok i => .int i
  | .error x => .str x
theorem dp_told {K : PySem.W.Frag} {H : Hp} (r : Except Str Int) : Dp K H (vTold r) (dTold r) := by
  cases r with
  | ok i => exact .int i
  | error x => exact .str x
theorem shp_told {r : Except Str Int} (h : ∀ x, r = .error x → PyData.strOk x = true) : Shp 0 (dTold r) := by
  cases r with
  | ok i => exact Shp.int i
  | error x => exact Shp.str (h x rfl)
def sp_law (K : PySem.W.Frag) : Sp := fun vs H Q E => ∃ (a : Addr) (ns : List Int), vs = [.ref a] ∧ SqL K H a (ns.map V.int) ∧ ns.length ≤ 63 ∧ ∀ H', Q (.bl true) H'
def t_law (K : PySem.W.Frag) (W : WX) : TS := uSeq (uAsg (uCallW (sp_formatted K) W (uCons (uMakeW (He.ga K "Disk") (sp_Disk___init__ K) W (uCons (uC (.int 200)) uNil)) uNil)) (vName 1))
    (uSeq (uIfS (uNot (uTest (uCB (rIsC (He.ga K "Files")) (uCons (tVar 1) (uCons (uC (.ref (He.ga K "Files"))) uNil))))) (uRet (uC (.bl false))) uNext)
    (uSeq (uFor (jList K (uLst (uCons (uTup (uCons (uC (.str "/a")) (uCons (uC (.str "dir")) uNil))) (uCons (uTup (uCons (uC (.str "/b")) (uCons (uC (.str "file")) uNil))) (uCons (uTup (uCons (uC (.str "/...")) (uCons (uC (.str "file")) uNil))) (uCons (uTup (uCons (uC (.str "/a/a")) (uCons (uC (.str "dir")) uNil))) (uCons (uTup (uCons (uC (.str "/a/file")) (uCons (uC (.str "file")) uNil))) uNil))))))) (gTup K 2 (gCons (vName 3) (gCons (vName 4) gNil))) (uDrop (uMethW (He.ga K "Files") "make" (sp_Files_make K) W (tVar 1) (uCons (tVar 3) (uCons (tVar 4) uNil)))))
    (uSeq (uDrop (uMethW (He.ga K "Files") "make" (sp_Files_make K) W (tVar 1) (uCons (uC (.str "/a/A.-_9zZ0")) (uCons (uC (.str "file")) uNil))))
    (uSeq (uDrop (uMethW (He.ga K "Files") "make" (sp_Files_make K) W (tVar 1) (uCons (uC (.str "/a/a/a")) (uCons (uC (.str "dir")) uNil))))
    (uSeq (uFor (jRng1 (uCons (uCB cMax2 (uCons (uC (.int 1)) (uCons (uCB cMin2 (uCons (uC (.int 20)) (uCons (uCB (cLenQ K) (uCons (tVar 0) uNil)) uNil))) uNil))) uNil)) (vName 2) (uSeq (uAsg (uCallW (sp__law_cell K) W (uCons (tVar 0) (uCons (tVar 2) uNil))) (vName 5))
    (uSeq (uAsg (uCallW (sp__law_path K) W (uCons (tVar 5) (uCons (uCallW (sp__law_drawn K) W (uCons (tVar 5) (uCons (tVar 2) uNil))) uNil))) (vName 3))
    (uIfS (uTest (uOp (rNeD K) (uCallW (sp__law_told K) W (uCons (tVar 1) (uCons (tVar 3) uNil))) (uCallW (sp__law_due K) W (uCons (tVar 3) uNil)))) (uRet (uC (.bl false))) uNext))))
    (uRet (uC (.bl true))))))))
theorem pure_law {K : PySem.W.Frag} {vs : List V} {H : Hp} {Q : VK} {E : XK} (h : sp_law K vs H Q E) : t_law K (WE1 E) (fin Q) (start ["_law_script", "_law_files", "_law_k", "_law_path_here", "_law_kind", "_law_cell_here"] vs) H := by
  obtain ⟨a, ns, rfl, hS, hl, q⟩ := h
  show t_law K _ (fin Q) [some (.ref a), none, none, none, none, none] H
  unfold t_law
  walk_at "go"
  refine x_make fun d dx H1 nd hd s1 => ?_
  refine ⟨d, dx, _, rfl, hd, ?_⟩
  rw [if_pos (by decide)]
  intro bl lg H2 nb nl k1 D2
  refine ⟨rfl, ?_⟩
  have s2 : Same H H2 := keepNew (fun x hx => by rw [List.mem_singleton.mp hx]; exact nd) s1 k1
  have nb0 := s1.free nb
  have nl0 := s1.free nl
  walk_at "go"
  have iS : ∀ x ∈ [bl, lg], (H2 x).isSome = true := fun x hx => by
    obtain ⟨w1, y1, _⟩ := D2.b
    obtain ⟨w2, y2, _⟩ := D2.l
    rcases List.mem_cons.mp hx with e | hx
    · rw [e, y1]; rfl
    · rw [List.mem_singleton.mp hx, y2]; rfl
  refine ⟨d, bl, lg, [bl, lg], _, _, rfl, D2, by rw [List.length_replicate]; decide, by decide, by simp, by simp, iS, fun f H3 nf k3 D3 FA3 => ?_⟩
  have nf0 := s2.free nf
  have fr : ∀ x ∈ [f, bl, lg], H x = none := fun x hx => by
    rcases List.mem_cons.mp hx with e | hx
    · rw [e]; exact nf0
    rcases List.mem_cons.mp hx with e | hx
    · rw [e]; exact nb0
    · rw [List.mem_singleton.mp hx]; exact nl0
  have s3 : Same H H3 := keepNew (fun x hx => fr x (List.mem_cons_of_mem _ hx)) s2 k3
  have lB : (fmtB (List.replicate (Int.toNat 200) (some (List.replicate 64 0)))).length = 200 := by
    unfold fmtB
    rw [List.length_set, List.length_set, setW_len, List.length_replicate]
    rfl
  generalize fmtB (List.replicate (Int.toNat 200) (some (List.replicate 64 (0 : Int)))) = B at D3 lB
  generalize fmtL [] = Lg at D3
  obtain ⟨fx, fs, fk, fu, ho, _⟩ := id FA3.o
  walk_at "go"
  refine x_isC ho ?_
  walk_at "go"
  refine x_ifF rfl ?_
  walk_at "go"
  refine x_tup fun t1 H4 n4 h4 s4 => ?_
  walk_at "go"
  refine x_tup fun t2 H5 n5 h5 s5 => ?_
  walk_at "go"
  refine x_tup fun t3 H6 n6 h6 s6 => ?_
  walk_at "go"
  refine x_tup fun t4 H7 n7 h7 s7 => ?_
  walk_at "go"
  refine x_tup fun t5 H8 n8 h8 s8 => ?_
  walk_at "go"
  refine x_lst fun l H9 n9 h9 s9 => ?_
  have s39 : Same H3 H9 := ((((s4.trans s5).trans s6).trans s7).trans s8).trans s9
  have g1 : H9 t1 = some (.tup [.str (kP 0), .str (kindS (kB 0))]) := s9 _ _ (s8 _ _ (s7 _ _ (s6 _ _ (s5 _ _ h4))))
  have g2 : H9 t2 = some (.tup [.str (kP 1), .str (kindS (kB 1))]) := s9 _ _ (s8 _ _ (s7 _ _ (s6 _ _ h5)))
  have g3 : H9 t3 = some (.tup [.str (kP 2), .str (kindS (kB 2))]) := s9 _ _ (s8 _ _ (s7 _ _ h6))
  have g4 : H9 t4 = some (.tup [.str (kP 3), .str (kindS (kB 3))]) := s9 _ _ (s8 _ _ h7)
  have g5 : H9 t5 = some (.tup [.str (kP 4), .str (kindS (kB 4))]) := s9 _ _ h8
  have D9 := D3.same s39
  have FA9 := FA3.same s39
  have sA := s3.trans s39
  have iS9 : ∀ x ∈ [f, bl, lg], (H9 x).isSome = true := fun x hx => by
    obtain ⟨w1, y1, _⟩ := D9.b
    obtain ⟨w2, y2, _⟩ := D9.l
    rcases List.mem_cons.mp hx with e | hx
    · rw [e, s39 _ _ ho]; rfl
    rcases List.mem_cons.mp hx with e | hx
    · rw [e, y1]; rfl
    · rw [List.mem_singleton.mp hx, y2]; rfl
  have nfd : ∀ {H' : Hp} {fi : Fs}, FilesAt K [f, bl, lg] H' f (.ref d) fi → DiskAt K H' d bl lg B Lg → d ∉ [f] ∧ bl ∉ [f] ∧ lg ∉ [f] := fun FA D => by
    obtain ⟨_, _, _, _, hf, _⟩ := FA.o
    obtain ⟨ex, hod⟩ := D.o
    obtain ⟨wsb, hbb, _⟩ := D.b
    obtain ⟨wsl, hbl, _⟩ := D.l
    refine ⟨fun z => ?_, fun z => ?_, fun z => ?_⟩
    · rw [List.mem_singleton.mp z, hf] at hod
      injection hod with hod
      injection hod with _ _ hod
      have := congrArg (fun l : List (Str × V) => l.length) hod
      cases this
    · exact absurd (List.mem_singleton.mp z) (ne_of hbb hf (by intro z; cases z))
    · exact absurd (List.mem_singleton.mp z) (ne_of hbl hf (by intro z; cases z))
  have kin : ∀ {H' H'' : Hp}, Keep [f] H' H'' → (∀ x ∈ [f, bl, lg], (H' x).isSome = true) → (H'' f).isSome = true → ∀ x ∈ [f, bl, lg], (H'' x).isSome = true := fun k h hf x hx => by
    by_cases c : x ∈ [f]
    · rw [List.mem_singleton.mp c]; exact hf
    · obtain ⟨o, ho⟩ := Option.isSome_iff_exists.mp (h x hx)
      rw [k.k _ _ c ho]
      rfl
  have fso : ∀ {H' : Hp} {fi : Fs}, FilesAt K [f, bl, lg] H' f (.ref d) fi → (H' f).isSome = true := fun FA => by
    obtain ⟨_, _, _, _, hf, _⟩ := FA.o
    rw [hf]
    rfl
  refine x_ilist (SqL.of h9) ?_
  refine x_forL (xs := [V.ref t1, .ref t2, .ref t3, .ref t4, .ref t5]) (fun i σ H' => (∃ o3 o4, σ = [some (.ref a), some (.ref f), none, o3, o4, none]) ∧ Same H H' ∧ Keep [f] H9 H' ∧ DiskAt K H' d bl lg B Lg ∧ (∃ new, FilesAt K [f, bl, lg] H' f (.ref d) ⟨kS i, [], 0, 1, [2], new⟩) ∧ ∀ x ∈ [f, bl, lg], (H' x).isSome = true)
    ⟨⟨_, _, rfl⟩, sA, Keep.refl, D9, ⟨false, FA9⟩, iS9⟩ (fun i σ H' _ h => SqL.of (h.2.2.1.k _ _ (by rw [List.mem_singleton]; exact ne_of h9 (s39 _ _ ho) (by intro z; cases z)) h9)) (fun i x σ H' hx h => ?_) (fun σ H' h => ?_)
  · obtain ⟨⟨o3, o4, rfl⟩, s, k, D, ⟨new, FA⟩, iS⟩ := h
    have hi : i < 5 := (List.getElem?_eq_some_iff.mp hx).1
    have hx2 : ∃ t, x = .ref t ∧ H9 t = some (.tup [.str (kP i), .str (kindS (kB i))]) := by
      match i, hi, hx with
      | 0, _, hx => cases hx; exact ⟨_, rfl, g1⟩
      | 1, _, hx => cases hx; exact ⟨_, rfl, g2⟩
      | 2, _, hx => cases hx; exact ⟨_, rfl, g3⟩
      | 3, _, hx => cases hx; exact ⟨_, rfl, g4⟩
      | 4, _, hx => cases hx; exact ⟨_, rfl, g5⟩
    obtain ⟨t, rfl, ht⟩ := hx2
    refine x_gtupN (k.t _ _ ht) ?_
    obtain ⟨fx', _, _, _, ho', _⟩ := id FA.o
    walk_at "go"
    refine x_meth_Files_make ho' ?_
    walk_at "go"
    obtain ⟨c1, c2, _⟩ := kS_ok i (by omega)
    refine ⟨f, d, bl, lg, [f, bl, lg], _, B, Lg, kP i, kB i, rfl, by simp, iS, FA, D, cloB_ok c1, wgB_ok c2, wn0, Nat.le_trans (kN_ok i (by omega)).2.2.2 (by decide), fun x e => ?_, fun S n e H10 k10 FA10 => ?_⟩
    · rw [lB, k_step i (by omega)] at e
      cases e
    · rw [lB, k_step i (by omega)] at e
      cases e
      obtain ⟨e1, e2, e3⟩ := nfd FA D
      walk_at "go"
      exact ⟨⟨_, _, rfl⟩, keepNew (fun x hx => by rw [List.mem_singleton.mp hx]; exact nf0) s k10, k.trans k10, D.keep k10 e1 e2 e3, ⟨true, FA10⟩, kin k10 iS (fso FA10)⟩
  · obtain ⟨⟨o3, o4, rfl⟩, s, k, D, ⟨new, FA⟩, iS⟩ := h
    have FA : FilesAt K [f, bl, lg] H' f (.ref d) ⟨kS 5, [], 0, 1, [2], new⟩ := FA
    obtain ⟨fx', _, _, _, ho', _⟩ := id FA.o
    walk_at "go"
    refine x_meth_Files_make ho' ?_
    walk_at "go"
    obtain ⟨c1, c2, _⟩ := kS_ok 5 (by decide)
    refine ⟨f, d, bl, lg, [f, bl, lg], _, B, Lg, kP 5, kB 5, rfl, by simp, iS, FA, D, cloB_ok c1, wgB_ok c2, wn0, by decide, fun x e => ?_, fun S n e H10 k10 FA10 => ?_⟩
    · rw [lB, k_step 5 (by decide)] at e
      cases e
    rw [lB, k_step 5 (by decide)] at e
    cases e
    obtain ⟨e1, e2, e3⟩ := nfd FA D
    have s10 : Same H H10 := keepNew (fun x hx => by rw [List.mem_singleton.mp hx]; exact nf0) s k10
    have D10 := D.keep k10 e1 e2 e3
    have iS10 := kin k10 iS (fso FA10)
    have FA10 : FilesAt K [f, bl, lg] H10 f (.ref d) ⟨kS 6, [], 0, 1, [2], true⟩ := FA10
    obtain ⟨fx', _, _, _, ho', _⟩ := id FA10.o
    walk_at "go"
    refine x_meth_Files_make ho' ?_
    walk_at "go"
    obtain ⟨c1, c2, _⟩ := kS_ok 6 (by decide)
    refine ⟨f, d, bl, lg, [f, bl, lg], _, B, Lg, kP 6, kB 6, rfl, by simp, iS10, FA10, D10, cloB_ok c1, wgB_ok c2, wn0, by decide, fun x e => ?_, fun S n e H11 k11 FA11 => ?_⟩
    · rw [lB, k_step 6 (by decide)] at e
      cases e
    rw [lB, k_step 6 (by decide)] at e
    cases e
    have s11 : Same H H11 := keepNew (fun x hx => by rw [List.mem_singleton.mp hx]; exact nf0) s10 k11
    have FA11 : FilesAt K [f, bl, lg] H11 f (.ref d) ⟨kS 7, [], 0, 1, [2], true⟩ := FA11
    walk_at "go"
    refine ⟨_, _, rfl, .inl (sq_same s11 hS), ?_⟩
    rw [List.length_map]
    refine ⟨_, _, rfl, ?_⟩
    refine ⟨_, _, rfl, ?_⟩
    have hn : ∃ n : Int, (if (if (ns.length : Int) < 20 then (ns.length : Int) else 20) > 1 then (if (ns.length : Int) < 20 then (ns.length : Int) else 20) else 1) = n ∧ 0 ≤ n ∧ n ≤ 20 := by
      refine ⟨_, rfl, ?_⟩
      split <;> split <;> omega
    obtain ⟨n, en, hn0, hn1⟩ := hn
    rw [en]
    refine x_rng1 (by omega) (by omega) ?_
    obtain ⟨c1, _, _⟩ := kS_ok 7 (by decide)
    refine x_forR (fun i σ H' => (∃ o2 o3 o4 o5, σ = [some (.ref a), some (.ref f), o2, o3, o4, o5]) ∧ Same H11 H') ⟨⟨_, _, _, _, rfl⟩, Same.refl _⟩ (fun i σ H' hi h => ?_) (fun σ H' h => ?_)
    · obtain ⟨⟨o2, o3, o4, o5, rfl⟩, s'⟩ := h
      walk_at "go"
      refine ⟨a, ns, _, rfl, sq_same (s11.trans s') hS, hl, by omega, by omega, fun H12 s12 => ?_⟩
      walk_at "go"
      refine ⟨_, _, rfl, ?_⟩
      walk_at "go"
      refine ⟨_, _, rfl, (drawn_nn _ _).1, fun p hp H13 s13 => ?_⟩
      walk_at "go"
      have sB := (s'.trans s12).trans s13
      refine ⟨f, [f, bl, lg], .ref d, _, p, rfl, FA11.same sB, cloB_ok c1, by omega, fun x e => ?_, fun H14 s14 => ?_⟩
      · have e : findF (kS 7) p = .error x := e
        rw [find_due] at e
        exact (due_word e).1
      walk_at "go"
      refine ⟨p, rfl, hp, fun H15 s15 => ?_⟩
      have e7 : findF (⟨kS 7, [], 0, 1, [2], true⟩ : Fs).S p = dueF p := find_due p
      rw [e7]
      have sh : Shp 0 (dTold (dueF p)) := shp_told fun x e => (due_word e).2
      refine x_neD (dp_told _) (dp_told _) (sh.ok (by decide)) (sh.ok (by decide)) ?_
      rw [eqv_same sh]
      walk_at "go"
      refine x_ifF rfl ?_
      walk_at "go"
      exact ⟨⟨_, _, _, _, rfl⟩, (sB.trans s14).trans s15⟩
    · obtain ⟨⟨o2, o3, o4, o5, rfl⟩, s'⟩ := h
      walk_at "go"
      exact q H'
end SP

set_option Elab.async false
set_option linter.all false
set_option maxRecDepth 100000
set_option maxHeartbeats 0
namespace SP
open PySem PySem.Spec PyProof.Rows L2 L2H
def top (i : Nat) : Stmt := PySem.Challenge.pw_stillpoint_k12_paths.main.body.getD i (.Pass ⟨0, 0, 0, 0⟩)
abbrev s_Disk___init__ : Stmt := inClass (top 17) 0
abbrev N_Disk___init__ : List Str := ["self", "count"]
theorem sc_Disk___init__ : FnScope N_Disk___init__ ["self", "count"] (defScope s_Disk___init__) := ⟨rfl, rfl, rfl, by decide +kernel, rfl, by decide +kernel, by decide +kernel⟩
abbrev s_Disk_write : Stmt := inClass (top 17) 2
abbrev N_Disk_write : List Str := ["self", "number", "block"]
theorem sc_Disk_write : FnScope N_Disk_write ["self", "number", "block"] (defScope s_Disk_write) := ⟨rfl, rfl, rfl, by decide +kernel, rfl, by decide +kernel, by decide +kernel⟩
abbrev s_Disk_barrier : Stmt := inClass (top 17) 3
abbrev N_Disk_barrier : List Str := ["self"]
theorem sc_Disk_barrier : FnScope N_Disk_barrier ["self"] (defScope s_Disk_barrier) := ⟨rfl, rfl, rfl, by decide +kernel, rfl, by decide +kernel, by decide +kernel⟩
abbrev s_many_blocks : Stmt := top 22
abbrev N_many_blocks : List Str := ["row"]
theorem sc_many_blocks : FnScope N_many_blocks ["row"] (defScope s_many_blocks) := ⟨rfl, rfl, rfl, by decide +kernel, rfl, by decide +kernel, by decide +kernel⟩
abbrev s_padded : Stmt := top 23
abbrev N_padded : List Str := ["row"]
theorem sc_padded : FnScope N_padded ["row"] (defScope s_padded) := ⟨rfl, rfl, rfl, by decide +kernel, rfl, by decide +kernel, by decide +kernel⟩
abbrev s_write_chain : Stmt := top 24
abbrev N_write_chain : List Str := ["disk", "row", "numbers", "k", "part", "following"]
theorem sc_write_chain : FnScope N_write_chain ["disk", "row", "numbers"] (defScope s_write_chain) := ⟨rfl, rfl, rfl, by decide +kernel, rfl, by decide +kernel, by decide +kernel⟩
abbrev s_write_root : Stmt := top 25
abbrev N_write_root : List Str := ["disk", "slot", "turn", "first"]
theorem sc_write_root : FnScope N_write_root ["disk", "slot", "turn", "first"] (defScope s_write_root) := ⟨rfl, rfl, rfl, by decide +kernel, rfl, by decide +kernel, by decide +kernel⟩
abbrev s_is_name : Stmt := top 30
abbrev N_is_name : List Str := ["text", "sign"]
theorem sc_is_name : FnScope N_is_name ["text"] (defScope s_is_name) := ⟨rfl, rfl, rfl, by decide +kernel, rfl, by decide +kernel, by decide +kernel⟩
abbrev s_need_name : Stmt := top 31
abbrev N_need_name : List Str := ["text"]
theorem sc_need_name : FnScope N_need_name ["text"] (defScope s_need_name) := ⟨rfl, rfl, rfl, by decide +kernel, rfl, by decide +kernel, by decide +kernel⟩
abbrev s_parts : Stmt := top 32
abbrev N_parts : List Str := ["path", "names", "name"]
theorem sc_parts : FnScope N_parts ["path"] (defScope s_parts) := ⟨rfl, rfl, rfl, by decide +kernel, rfl, by decide +kernel, by decide +kernel⟩
abbrev s_Thing___init__ : Stmt := inClass (top 37) 0
abbrev N_Thing___init__ : List Str := ["self", "kind", "held", "entries"]
theorem sc_Thing___init__ : FnScope N_Thing___init__ ["self", "kind", "held", "entries"] (defScope s_Thing___init__) := ⟨rfl, rfl, rfl, by decide +kernel, rfl, by decide +kernel, by decide +kernel⟩
abbrev s_fresh : Stmt := top 38
abbrev N_fresh : List Str := []
theorem sc_fresh : FnScope N_fresh [] (defScope s_fresh) := ⟨rfl, rfl, rfl, by decide +kernel, rfl, by decide +kernel, by decide +kernel⟩
abbrev s_copied : Stmt := top 39
abbrev N_copied : List Str := ["state", "found", "number", "thing"]
theorem sc_copied : FnScope N_copied ["state"] (defScope s_copied) := ⟨rfl, rfl, rfl, by decide +kernel, rfl, by decide +kernel, by decide +kernel⟩
abbrev s_least_free : Stmt := top 40
abbrev N_least_free : List Str := ["state", "number"]
theorem sc_least_free : FnScope N_least_free ["state"] (defScope s_least_free) := ⟨rfl, rfl, rfl, by decide +kernel, rfl, by decide +kernel, by decide +kernel⟩
abbrev s_entry_of : Stmt := top 41
abbrev N_entry_of : List Str := ["state", "number", "name"]
theorem sc_entry_of : FnScope N_entry_of ["state", "number", "name"] (defScope s_entry_of) := ⟨rfl, rfl, rfl, by decide +kernel, rfl, by decide +kernel, by decide +kernel⟩
abbrev s_walked : Stmt := top 42
abbrev N_walked : List Str := ["state", "names", "number", "name"]
theorem sc_walked : FnScope N_walked ["state", "names"] (defScope s_walked) := ⟨rfl, rfl, rfl, by decide +kernel, rfl, by decide +kernel, by decide +kernel⟩
abbrev s_place_of : Stmt := top 43
abbrev N_place_of : List Str := ["state", "names", "number"]
theorem sc_place_of : FnScope N_place_of ["state", "names"] (defScope s_place_of) := ⟨rfl, rfl, rfl, by decide +kernel, rfl, by decide +kernel, by decide +kernel⟩
abbrev s_text_bytes : Stmt := top 45
abbrev N_text_bytes : List Str := ["text", "sign"]
theorem sc_text_bytes : FnScope N_text_bytes ["text"] (defScope s_text_bytes) := ⟨rfl, rfl, rfl, by decide +kernel, rfl, by decide +kernel, by decide +kernel⟩
abbrev s_thing_bytes : Stmt := top 46
abbrev N_thing_bytes : List Str := ["number", "thing", "found", "name"]
theorem sc_thing_bytes : FnScope N_thing_bytes ["number", "thing"] (defScope s_thing_bytes) := ⟨rfl, rfl, rfl, by decide +kernel, rfl, by decide +kernel, by decide +kernel⟩
abbrev s_state_bytes : Stmt := top 47
abbrev N_state_bytes : List Str := ["state", "found", "number"]
theorem sc_state_bytes : FnScope N_state_bytes ["state"] (defScope s_state_bytes) := ⟨rfl, rfl, rfl, by decide +kernel, rfl, by decide +kernel, by decide +kernel⟩
abbrev s_image : Stmt := top 48
abbrev N_image : List Str := ["state", "snaps", "found", "name"]
theorem sc_image : FnScope N_image ["state", "snaps"] (defScope s_image) := ⟨rfl, rfl, rfl, by decide +kernel, rfl, by decide +kernel, by decide +kernel⟩
abbrev s_Files___init__ : Stmt := inClass (top 50) 0
abbrev N_Files___init__ : List Str := ["self", "disk", "state", "snaps"]
theorem sc_Files___init__ : FnScope N_Files___init__ ["self", "disk", "state", "snaps"] (defScope s_Files___init__) := ⟨rfl, rfl, rfl, by decide +kernel, rfl, by decide +kernel, by decide +kernel⟩
abbrev s_Files_may_write : Stmt := inClass (top 50) 1
abbrev N_Files_may_write : List Str := ["self"]
theorem sc_Files_may_write : FnScope N_Files_may_write ["self"] (defScope s_Files_may_write) := ⟨rfl, rfl, rfl, by decide +kernel, rfl, by decide +kernel, by decide +kernel⟩
abbrev s_Files_become : Stmt := inClass (top 50) 2
abbrev N_Files_become : List Str := ["self", "state", "snaps"]
theorem sc_Files_become : FnScope N_Files_become ["self", "state", "snaps"] (defScope s_Files_become) := ⟨rfl, rfl, rfl, by decide +kernel, rfl, by decide +kernel, by decide +kernel⟩
abbrev s_Files_find : Stmt := inClass (top 50) 4
abbrev N_Files_find : List Str := ["self", "path"]
theorem sc_Files_find : FnScope N_Files_find ["self", "path"] (defScope s_Files_find) := ⟨rfl, rfl, rfl, by decide +kernel, rfl, by decide +kernel, by decide +kernel⟩
abbrev s_Files_place_for : Stmt := inClass (top 50) 5
abbrev N_Files_place_for : List Str := ["self", "names", "place"]
theorem sc_Files_place_for : FnScope N_Files_place_for ["self", "names"] (defScope s_Files_place_for) := ⟨rfl, rfl, rfl, by decide +kernel, rfl, by decide +kernel, by decide +kernel⟩
abbrev s_Files_make : Stmt := inClass (top 50) 6
abbrev N_Files_make : List Str := ["self", "path", "kind", "names", "place", "number", "state"]
theorem sc_Files_make : FnScope N_Files_make ["self", "path", "kind"] (defScope s_Files_make) := ⟨rfl, rfl, rfl, by decide +kernel, rfl, by decide +kernel, by decide +kernel⟩
abbrev s_formatted : Stmt := top 51
abbrev N_formatted : List Str := ["disk", "files", "row"]
theorem sc_formatted : FnScope N_formatted ["disk"] (defScope s_formatted) := ⟨rfl, rfl, rfl, by decide +kernel, rfl, by decide +kernel, by decide +kernel⟩
abbrev s__law_cell : Stmt := top 53
abbrev N__law_cell : List Str := ["_law_script", "_law_k"]
theorem sc__law_cell : FnScope N__law_cell ["_law_script", "_law_k"] (defScope s__law_cell) := ⟨rfl, rfl, rfl, by decide +kernel, rfl, by decide +kernel, by decide +kernel⟩
abbrev s__law_drawn : Stmt := top 54
abbrev N__law_drawn : List Str := ["_law_cell_here", "_law_k", "_law_more"]
theorem sc__law_drawn : FnScope N__law_drawn ["_law_cell_here", "_law_k"] (defScope s__law_drawn) := ⟨rfl, rfl, rfl, by decide +kernel, rfl, by decide +kernel, by decide +kernel⟩
abbrev s__law_word : Stmt := top 55
abbrev N__law_word : List Str := ["_law_e", "_law_flags", "_law_names"]
theorem sc__law_word : FnScope N__law_word ["_law_e"] (defScope s__law_word) := ⟨rfl, rfl, rfl, by decide +kernel, rfl, by decide +kernel, by decide +kernel⟩
abbrev s__law_is_name : Stmt := top 56
abbrev N__law_is_name : List Str := ["_law_name", "_law_sign"]
theorem sc__law_is_name : FnScope N__law_is_name ["_law_name"] (defScope s__law_is_name) := ⟨rfl, rfl, rfl, by decide +kernel, rfl, by decide +kernel, by decide +kernel⟩
abbrev s__law_tree : Stmt := top 57
abbrev N__law_tree : List Str := []
theorem sc__law_tree : FnScope N__law_tree [] (defScope s__law_tree) := ⟨rfl, rfl, rfl, by decide +kernel, rfl, by decide +kernel, by decide +kernel⟩
abbrev s__law_due : Stmt := top 58
abbrev N__law_due : List Str := ["_law_path_here", "_law_names", "_law_number", "_law_name", "_law_entries", "_law_one"]
theorem sc__law_due : FnScope N__law_due ["_law_path_here"] (defScope s__law_due) := ⟨rfl, rfl, rfl, by decide +kernel, rfl, by decide +kernel, by decide +kernel⟩
abbrev s__law_told : Stmt := top 59
abbrev N__law_told : List Str := ["_law_files", "_law_path_here", "_law_e"]
theorem sc__law_told : FnScope N__law_told ["_law_files", "_law_path_here"] (defScope s__law_told) := ⟨rfl, rfl, rfl, by decide +kernel, rfl, by decide +kernel, by decide +kernel⟩
abbrev s__law_path : Stmt := top 60
abbrev N__law_path : List Str := ["_law_cell_here", "_law_more", "_law_names", "_law_path_here", "_law_k", "_law_signs"]
theorem sc__law_path : FnScope N__law_path ["_law_cell_here", "_law_more"] (defScope s__law_path) := ⟨rfl, rfl, rfl, by decide +kernel, rfl, by decide +kernel, by decide +kernel⟩
abbrev s_law : Stmt := top 61
abbrev N_law : List Str := ["_law_script", "_law_files", "_law_k", "_law_path_here", "_law_kind", "_law_cell_here"]
theorem sc_law : FnScope N_law ["_law_script"] (defScope s_law) := ⟨rfl, rfl, rfl, by decide +kernel, rfl, by decide +kernel, by decide +kernel⟩
structure Tx (K : PySem.W.Frag) (mg : Str → Option Value) : Prop where
  g_StillError : mg "StillError" = some (.ref (He.ga K "StillError"))
  e_StillError : ExcX K mg "StillError"
  g_NoThing : mg "NoThing" = some (.ref (He.ga K "NoThing"))
  e_NoThing : ExcX K mg "NoThing"
  g_NoDirectory : mg "NoDirectory" = some (.ref (He.ga K "NoDirectory"))
  e_NoDirectory : ExcX K mg "NoDirectory"
  g_BadName : mg "BadName" = some (.ref (He.ga K "BadName"))
  e_BadName : ExcX K mg "BadName"
  g_IsThere : mg "IsThere" = some (.ref (He.ga K "IsThere"))
  e_IsThere : ExcX K mg "IsThere"
  g_NoRoom : mg "NoRoom" = some (.ref (He.ga K "NoRoom"))
  e_NoRoom : ExcX K mg "NoRoom"
  g_NotEmpty : mg "NotEmpty" = some (.ref (He.ga K "NotEmpty"))
  e_NotEmpty : ExcX K mg "NotEmpty"
  g_WrongKind : mg "WrongKind" = some (.ref (He.ga K "WrongKind"))
  e_WrongKind : ExcX K mg "WrongKind"
  g_TooGreat : mg "TooGreat" = some (.ref (He.ga K "TooGreat"))
  e_TooGreat : ExcX K mg "TooGreat"
  g_ReadOnly : mg "ReadOnly" = some (.ref (He.ga K "ReadOnly"))
  e_ReadOnly : ExcX K mg "ReadOnly"
  g_NoFiles : mg "NoFiles" = some (.ref (He.ga K "NoFiles"))
  e_NoFiles : ExcX K mg "NoFiles"
  g_Disk : mg "Disk" = some (.ref (He.ga K "Disk"))
  x_Disk : PxDisk K
  k_Disk : Mk K (He.ga K "Disk") (He.ma K (He.ga K "Disk") "__init__")
  g_Thing : mg "Thing" = some (.ref (He.ga K "Thing"))
  x_Thing : PxThing K
  k_Thing : Mk K (He.ga K "Thing") (He.ma K (He.ga K "Thing") "__init__")
  g_Files : mg "Files" = some (.ref (He.ga K "Files"))
  x_Files : PxFiles K
  k_Files : Mk K (He.ga K "Files") (He.ma K (He.ga K "Files") "__init__")
  d_Disk___init__ : ∃ fd, FunD K "__init__" "Disk.__init__" (defArgs s_Disk___init__) (defBody s_Disk___init__) (defScope s_Disk___init__) [] [] (He.ma K (He.ga K "Disk") "__init__") fd
  m_Disk_write : Meth K (He.ga K "Disk") "write" (He.ma K (He.ga K "Disk") "write")
  d_Disk_write : ∃ fd, FunD K "write" "Disk.write" (defArgs s_Disk_write) (defBody s_Disk_write) (defScope s_Disk_write) [] [] (He.ma K (He.ga K "Disk") "write") fd
  m_Disk_barrier : Meth K (He.ga K "Disk") "barrier" (He.ma K (He.ga K "Disk") "barrier")
  d_Disk_barrier : ∃ fd, FunD K "barrier" "Disk.barrier" (defArgs s_Disk_barrier) (defBody s_Disk_barrier) (defScope s_Disk_barrier) [] [] (He.ma K (He.ga K "Disk") "barrier") fd
  g_many_blocks : mg "many_blocks" = some (.ref (He.ga K "many_blocks"))
  d_many_blocks : ∃ fd, FunD K "many_blocks" "many_blocks" (defArgs s_many_blocks) (defBody s_many_blocks) (defScope s_many_blocks) [] [] (He.ga K "many_blocks") fd
  g_padded : mg "padded" = some (.ref (He.ga K "padded"))
  d_padded : ∃ fd, FunD K "padded" "padded" (defArgs s_padded) (defBody s_padded) (defScope s_padded) [] [] (He.ga K "padded") fd
  g_write_chain : mg "write_chain" = some (.ref (He.ga K "write_chain"))
  d_write_chain : ∃ fd, FunD K "write_chain" "write_chain" (defArgs s_write_chain) (defBody s_write_chain) (defScope s_write_chain) [] [] (He.ga K "write_chain") fd
  g_write_root : mg "write_root" = some (.ref (He.ga K "write_root"))
  d_write_root : ∃ fd, FunD K "write_root" "write_root" (defArgs s_write_root) (defBody s_write_root) (defScope s_write_root) [] [] (He.ga K "write_root") fd
  g_is_name : mg "is_name" = some (.ref (He.ga K "is_name"))
  d_is_name : ∃ fd, FunD K "is_name" "is_name" (defArgs s_is_name) (defBody s_is_name) (defScope s_is_name) [] [] (He.ga K "is_name") fd
  g_need_name : mg "need_name" = some (.ref (He.ga K "need_name"))
  d_need_name : ∃ fd, FunD K "need_name" "need_name" (defArgs s_need_name) (defBody s_need_name) (defScope s_need_name) [] [] (He.ga K "need_name") fd
  g_parts : mg "parts" = some (.ref (He.ga K "parts"))
  d_parts : ∃ fd, FunD K "parts" "parts" (defArgs s_parts) (defBody s_parts) (defScope s_parts) [] [] (He.ga K "parts") fd
  d_Thing___init__ : ∃ fd, FunD K "__init__" "Thing.__init__" (defArgs s_Thing___init__) (defBody s_Thing___init__) (defScope s_Thing___init__) [] [] (He.ma K (He.ga K "Thing") "__init__") fd
  g_fresh : mg "fresh" = some (.ref (He.ga K "fresh"))
  d_fresh : ∃ fd, FunD K "fresh" "fresh" (defArgs s_fresh) (defBody s_fresh) (defScope s_fresh) [] [] (He.ga K "fresh") fd
  g_copied : mg "copied" = some (.ref (He.ga K "copied"))
  d_copied : ∃ fd, FunD K "copied" "copied" (defArgs s_copied) (defBody s_copied) (defScope s_copied) [] [] (He.ga K "copied") fd
  g_least_free : mg "least_free" = some (.ref (He.ga K "least_free"))
  d_least_free : ∃ fd, FunD K "least_free" "least_free" (defArgs s_least_free) (defBody s_least_free) (defScope s_least_free) [] [] (He.ga K "least_free") fd
  g_entry_of : mg "entry_of" = some (.ref (He.ga K "entry_of"))
  d_entry_of : ∃ fd, FunD K "entry_of" "entry_of" (defArgs s_entry_of) (defBody s_entry_of) (defScope s_entry_of) [] [] (He.ga K "entry_of") fd
  g_walked : mg "walked" = some (.ref (He.ga K "walked"))
  d_walked : ∃ fd, FunD K "walked" "walked" (defArgs s_walked) (defBody s_walked) (defScope s_walked) [] [] (He.ga K "walked") fd
  g_place_of : mg "place_of" = some (.ref (He.ga K "place_of"))
  d_place_of : ∃ fd, FunD K "place_of" "place_of" (defArgs s_place_of) (defBody s_place_of) (defScope s_place_of) [] [] (He.ga K "place_of") fd
  g_text_bytes : mg "text_bytes" = some (.ref (He.ga K "text_bytes"))
  d_text_bytes : ∃ fd, FunD K "text_bytes" "text_bytes" (defArgs s_text_bytes) (defBody s_text_bytes) (defScope s_text_bytes) [] [] (He.ga K "text_bytes") fd
  g_thing_bytes : mg "thing_bytes" = some (.ref (He.ga K "thing_bytes"))
  d_thing_bytes : ∃ fd, FunD K "thing_bytes" "thing_bytes" (defArgs s_thing_bytes) (defBody s_thing_bytes) (defScope s_thing_bytes) [] [] (He.ga K "thing_bytes") fd
  g_state_bytes : mg "state_bytes" = some (.ref (He.ga K "state_bytes"))
  d_state_bytes : ∃ fd, FunD K "state_bytes" "state_bytes" (defArgs s_state_bytes) (defBody s_state_bytes) (defScope s_state_bytes) [] [] (He.ga K "state_bytes") fd
  g_image : mg "image" = some (.ref (He.ga K "image"))
  d_image : ∃ fd, FunD K "image" "image" (defArgs s_image) (defBody s_image) (defScope s_image) [] [] (He.ga K "image") fd
  d_Files___init__ : ∃ fd, FunD K "__init__" "Files.__init__" (defArgs s_Files___init__) (defBody s_Files___init__) (defScope s_Files___init__) [] [] (He.ma K (He.ga K "Files") "__init__") fd
  m_Files_may_write : Meth K (He.ga K "Files") "may_write" (He.ma K (He.ga K "Files") "may_write")
  d_Files_may_write : ∃ fd, FunD K "may_write" "Files.may_write" (defArgs s_Files_may_write) (defBody s_Files_may_write) (defScope s_Files_may_write) [] [] (He.ma K (He.ga K "Files") "may_write") fd
  m_Files_become : Meth K (He.ga K "Files") "become" (He.ma K (He.ga K "Files") "become")
  d_Files_become : ∃ fd, FunD K "become" "Files.become" (defArgs s_Files_become) (defBody s_Files_become) (defScope s_Files_become) [] [] (He.ma K (He.ga K "Files") "become") fd
  m_Files_find : Meth K (He.ga K "Files") "find" (He.ma K (He.ga K "Files") "find")
  d_Files_find : ∃ fd, FunD K "find" "Files.find" (defArgs s_Files_find) (defBody s_Files_find) (defScope s_Files_find) [] [] (He.ma K (He.ga K "Files") "find") fd
  m_Files_place_for : Meth K (He.ga K "Files") "place_for" (He.ma K (He.ga K "Files") "place_for")
  d_Files_place_for : ∃ fd, FunD K "place_for" "Files.place_for" (defArgs s_Files_place_for) (defBody s_Files_place_for) (defScope s_Files_place_for) [] [] (He.ma K (He.ga K "Files") "place_for") fd
  m_Files_make : Meth K (He.ga K "Files") "make" (He.ma K (He.ga K "Files") "make")
  d_Files_make : ∃ fd, FunD K "make" "Files.make" (defArgs s_Files_make) (defBody s_Files_make) (defScope s_Files_make) [] [] (He.ma K (He.ga K "Files") "make") fd
  g_formatted : mg "formatted" = some (.ref (He.ga K "formatted"))
  d_formatted : ∃ fd, FunD K "formatted" "formatted" (defArgs s_formatted) (defBody s_formatted) (defScope s_formatted) [] [] (He.ga K "formatted") fd
  g__law_cell : mg "_law_cell" = some (.ref (He.ga K "_law_cell"))
  d__law_cell : ∃ fd, FunD K "_law_cell" "_law_cell" (defArgs s__law_cell) (defBody s__law_cell) (defScope s__law_cell) [] [] (He.ga K "_law_cell") fd
  g__law_drawn : mg "_law_drawn" = some (.ref (He.ga K "_law_drawn"))
  d__law_drawn : ∃ fd, FunD K "_law_drawn" "_law_drawn" (defArgs s__law_drawn) (defBody s__law_drawn) (defScope s__law_drawn) [] [] (He.ga K "_law_drawn") fd
  g__law_word : mg "_law_word" = some (.ref (He.ga K "_law_word"))
  d__law_word : ∃ fd, FunD K "_law_word" "_law_word" (defArgs s__law_word) (defBody s__law_word) (defScope s__law_word) [] [] (He.ga K "_law_word") fd
  g__law_is_name : mg "_law_is_name" = some (.ref (He.ga K "_law_is_name"))
  d__law_is_name : ∃ fd, FunD K "_law_is_name" "_law_is_name" (defArgs s__law_is_name) (defBody s__law_is_name) (defScope s__law_is_name) [] [] (He.ga K "_law_is_name") fd
  g__law_tree : mg "_law_tree" = some (.ref (He.ga K "_law_tree"))
  d__law_tree : ∃ fd, FunD K "_law_tree" "_law_tree" (defArgs s__law_tree) (defBody s__law_tree) (defScope s__law_tree) [] [] (He.ga K "_law_tree") fd
  g__law_due : mg "_law_due" = some (.ref (He.ga K "_law_due"))
  d__law_due : ∃ fd, FunD K "_law_due" "_law_due" (defArgs s__law_due) (defBody s__law_due) (defScope s__law_due) [] [] (He.ga K "_law_due") fd
  g__law_told : mg "_law_told" = some (.ref (He.ga K "_law_told"))
  d__law_told : ∃ fd, FunD K "_law_told" "_law_told" (defArgs s__law_told) (defBody s__law_told) (defScope s__law_told) [] [] (He.ga K "_law_told") fd
  g__law_path : mg "_law_path" = some (.ref (He.ga K "_law_path"))
  d__law_path : ∃ fd, FunD K "_law_path" "_law_path" (defArgs s__law_path) (defBody s__law_path) (defScope s__law_path) [] [] (He.ga K "_law_path") fd
  g_law : mg "law" = some (.ref (He.ga K "law"))
  d_law : ∃ fd, FunD K "law" "law" (defArgs s_law) (defBody s_law) (defScope s_law) [] [] (He.ga K "law") fd
  b_len : mg "len" = none
  b_all : mg "all" = none
  b_any : mg "any" = none
  b_min : mg "min" = none
  b_max : mg "max" = none
  b_ord : mg "ord" = none
  b_sorted : mg "sorted" = none
  b_list : mg "list" = none
  b_dict : mg "dict" = none
  b_tuple : mg "tuple" = none
  b_int : mg "int" = none
  b_range : mg "range" = none
  b_isinstance : mg "isinstance" = none
  b_ValueError : mg "ValueError" = none
  i_SIZE : ∃ t, mg "SIZE" = some (.int 64 t)
  i_LEAST : ∃ t, mg "LEAST" = some (.int 16 t)
  i_MOST : ∃ t, mg "MOST" = some (.int 256 t)
  i_PAYLOAD : ∃ t, mg "PAYLOAD" = some (.int 62 t)
  i_MARK : ∃ t, mg "MARK" = some (.int 83 t)
  i_FIRST : ∃ t, mg "FIRST" = some (.int 2 t)
  i_MOST_NAME : ∃ t, mg "MOST_NAME" = some (.int 8 t)
  i_MOST_PATH : ∃ t, mg "MOST_PATH" = some (.int 60 t)
  z_SIGNS : ∃ t, mg "SIGNS" = some (.str txt_SIGNS t)
  i_MOST_THINGS : ∃ t, mg "MOST_THINGS" = some (.int 32 t)
  i_MOST_SIZE : ∃ t, mg "MOST_SIZE" = some (.int 600 t)
  i_MOST_ENTRIES : ∃ t, mg "MOST_ENTRIES" = some (.int 40 t)
  x10 : XK10 K
  is_Files : C8.InsC K (He.ga K "Files")
theorem len_Disk___init__ {K : PySem.W.Frag} {vs : List V} {H : Hp} {Q : VK} {E : XK} (h : sp_Disk___init__ K vs H Q E) : vs.length = 2 := by
  unfold sp_Disk___init__ at h
  repeat (obtain ⟨_, h⟩ := h)
  subst_vars
  rfl
theorem len_Disk_write {K : PySem.W.Frag} {vs : List V} {H : Hp} {Q : VK} {E : XK} (h : sp_Disk_write K vs H Q E) : vs.length = 3 := by
  unfold sp_Disk_write at h
  repeat (obtain ⟨_, h⟩ := h)
  subst_vars
  rfl
theorem len_Disk_barrier {K : PySem.W.Frag} {vs : List V} {H : Hp} {Q : VK} {E : XK} (h : sp_Disk_barrier K vs H Q E) : vs.length = 1 := by
  unfold sp_Disk_barrier at h
  repeat (obtain ⟨_, h⟩ := h)
  subst_vars
  rfl
theorem len_many_blocks {K : PySem.W.Frag} {vs : List V} {H : Hp} {Q : VK} {E : XK} (h : sp_many_blocks K vs H Q E) : vs.length = 1 := by
  unfold sp_many_blocks at h
  repeat (obtain ⟨_, h⟩ := h)
  subst_vars
  rfl
theorem len_padded {K : PySem.W.Frag} {vs : List V} {H : Hp} {Q : VK} {E : XK} (h : sp_padded K vs H Q E) : vs.length = 1 := by
  unfold sp_padded at h
  repeat (obtain ⟨_, h⟩ := h)
  subst_vars
  rfl
theorem len_write_chain {K : PySem.W.Frag} {vs : List V} {H : Hp} {Q : VK} {E : XK} (h : sp_write_chain K vs H Q E) : vs.length = 3 := by
  unfold sp_write_chain at h
  repeat (obtain ⟨_, h⟩ := h)
  subst_vars
  rfl
theorem len_write_root {K : PySem.W.Frag} {vs : List V} {H : Hp} {Q : VK} {E : XK} (h : sp_write_root K vs H Q E) : vs.length = 4 := by
  unfold sp_write_root at h
  repeat (obtain ⟨_, h⟩ := h)
  subst_vars
  rfl
theorem len_is_name {K : PySem.W.Frag} {vs : List V} {H : Hp} {Q : VK} {E : XK} (h : sp_is_name K vs H Q E) : vs.length = 1 := by
  unfold sp_is_name at h
  repeat (obtain ⟨_, h⟩ := h)
  subst_vars
  rfl
theorem len_need_name {K : PySem.W.Frag} {vs : List V} {H : Hp} {Q : VK} {E : XK} (h : sp_need_name K vs H Q E) : vs.length = 1 := by
  unfold sp_need_name at h
  repeat (obtain ⟨_, h⟩ := h)
  subst_vars
  rfl
theorem len_parts {K : PySem.W.Frag} {vs : List V} {H : Hp} {Q : VK} {E : XK} (h : sp_parts K vs H Q E) : vs.length = 1 := by
  unfold sp_parts at h
  repeat (obtain ⟨_, h⟩ := h)
  subst_vars
  rfl
theorem len_Thing___init__ {K : PySem.W.Frag} {vs : List V} {H : Hp} {Q : VK} {E : XK} (h : sp_Thing___init__ K vs H Q E) : vs.length = 4 := by
  unfold sp_Thing___init__ at h
  repeat (obtain ⟨_, h⟩ := h)
  subst_vars
  rfl
theorem len_fresh {K : PySem.W.Frag} {vs : List V} {H : Hp} {Q : VK} {E : XK} (h : sp_fresh K vs H Q E) : vs.length = 0 := by
  unfold sp_fresh at h
  repeat (obtain ⟨_, h⟩ := h)
  subst_vars
  rfl
theorem len_copied {K : PySem.W.Frag} {vs : List V} {H : Hp} {Q : VK} {E : XK} (h : sp_copied K vs H Q E) : vs.length = 1 := by
  unfold sp_copied at h
  repeat (obtain ⟨_, h⟩ := h)
  subst_vars
  rfl
theorem len_least_free {K : PySem.W.Frag} {vs : List V} {H : Hp} {Q : VK} {E : XK} (h : sp_least_free K vs H Q E) : vs.length = 1 := by
  unfold sp_least_free at h
  repeat (obtain ⟨_, h⟩ := h)
  subst_vars
  rfl
theorem len_entry_of {K : PySem.W.Frag} {vs : List V} {H : Hp} {Q : VK} {E : XK} (h : sp_entry_of K vs H Q E) : vs.length = 3 := by
  unfold sp_entry_of at h
  repeat (obtain ⟨_, h⟩ := h)
  subst_vars
  rfl
theorem len_walked {K : PySem.W.Frag} {vs : List V} {H : Hp} {Q : VK} {E : XK} (h : sp_walked K vs H Q E) : vs.length = 2 := by
  unfold sp_walked at h
  repeat (obtain ⟨_, h⟩ := h)
  subst_vars
  rfl
theorem len_place_of {K : PySem.W.Frag} {vs : List V} {H : Hp} {Q : VK} {E : XK} (h : sp_place_of K vs H Q E) : vs.length = 2 := by
  unfold sp_place_of at h
  repeat (obtain ⟨_, h⟩ := h)
  subst_vars
  rfl
theorem len_text_bytes {K : PySem.W.Frag} {vs : List V} {H : Hp} {Q : VK} {E : XK} (h : sp_text_bytes K vs H Q E) : vs.length = 1 := by
  unfold sp_text_bytes at h
  repeat (obtain ⟨_, h⟩ := h)
  subst_vars
  rfl
theorem len_thing_bytes {K : PySem.W.Frag} {vs : List V} {H : Hp} {Q : VK} {E : XK} (h : sp_thing_bytes K vs H Q E) : vs.length = 2 := by
  unfold sp_thing_bytes at h
  repeat (obtain ⟨_, h⟩ := h)
  subst_vars
  rfl
theorem len_state_bytes {K : PySem.W.Frag} {vs : List V} {H : Hp} {Q : VK} {E : XK} (h : sp_state_bytes K vs H Q E) : vs.length = 1 := by
  unfold sp_state_bytes at h
  repeat (obtain ⟨_, h⟩ := h)
  subst_vars
  rfl
theorem len_image {K : PySem.W.Frag} {vs : List V} {H : Hp} {Q : VK} {E : XK} (h : sp_image K vs H Q E) : vs.length = 2 := by
  unfold sp_image at h
  repeat (obtain ⟨_, h⟩ := h)
  subst_vars
  rfl
theorem len_Files___init__ {K : PySem.W.Frag} {vs : List V} {H : Hp} {Q : VK} {E : XK} (h : sp_Files___init__ K vs H Q E) : vs.length = 4 := by
  unfold sp_Files___init__ at h
  repeat (obtain ⟨_, h⟩ := h)
  subst_vars
  rfl
theorem len_Files_may_write {K : PySem.W.Frag} {vs : List V} {H : Hp} {Q : VK} {E : XK} (h : sp_Files_may_write K vs H Q E) : vs.length = 1 := by
  unfold sp_Files_may_write at h
  repeat (obtain ⟨_, h⟩ := h)
  subst_vars
  rfl
theorem len_Files_become {K : PySem.W.Frag} {vs : List V} {H : Hp} {Q : VK} {E : XK} (h : sp_Files_become K vs H Q E) : vs.length = 3 := by
  unfold sp_Files_become at h
  repeat (obtain ⟨_, h⟩ := h)
  subst_vars
  rfl
theorem len_Files_find {K : PySem.W.Frag} {vs : List V} {H : Hp} {Q : VK} {E : XK} (h : sp_Files_find K vs H Q E) : vs.length = 2 := by
  unfold sp_Files_find at h
  repeat (obtain ⟨_, h⟩ := h)
  subst_vars
  rfl
theorem len_Files_place_for {K : PySem.W.Frag} {vs : List V} {H : Hp} {Q : VK} {E : XK} (h : sp_Files_place_for K vs H Q E) : vs.length = 2 := by
  unfold sp_Files_place_for at h
  repeat (obtain ⟨_, h⟩ := h)
  subst_vars
  rfl
theorem len_Files_make {K : PySem.W.Frag} {vs : List V} {H : Hp} {Q : VK} {E : XK} (h : sp_Files_make K vs H Q E) : vs.length = 3 := by
  unfold sp_Files_make at h
  repeat (obtain ⟨_, h⟩ := h)
  subst_vars
  rfl
theorem len_formatted {K : PySem.W.Frag} {vs : List V} {H : Hp} {Q : VK} {E : XK} (h : sp_formatted K vs H Q E) : vs.length = 1 := by
  unfold sp_formatted at h
  repeat (obtain ⟨_, h⟩ := h)
  subst_vars
  rfl
theorem len__law_cell {K : PySem.W.Frag} {vs : List V} {H : Hp} {Q : VK} {E : XK} (h : sp__law_cell K vs H Q E) : vs.length = 2 := by
  unfold sp__law_cell at h
  repeat (obtain ⟨_, h⟩ := h)
  subst_vars
  rfl
theorem len__law_drawn {K : PySem.W.Frag} {vs : List V} {H : Hp} {Q : VK} {E : XK} (h : sp__law_drawn K vs H Q E) : vs.length = 2 := by
  unfold sp__law_drawn at h
  repeat (obtain ⟨_, h⟩ := h)
  subst_vars
  rfl
theorem len__law_word {K : PySem.W.Frag} {p : Addr × Obj} {vs : List V} {H : Hp} {Q : VK} {E : XK} (h : sp__law_word K p vs H Q E) : vs.length = 1 := by
  obtain ⟨d, hd, rfl, _⟩ := h
  rfl
theorem len__law_is_name {K : PySem.W.Frag} {vs : List V} {H : Hp} {Q : VK} {E : XK} (h : sp__law_is_name K vs H Q E) : vs.length = 1 := by
  unfold sp__law_is_name at h
  repeat (obtain ⟨_, h⟩ := h)
  subst_vars
  rfl
theorem len__law_tree {K : PySem.W.Frag} {vs : List V} {H : Hp} {Q : VK} {E : XK} (h : sp__law_tree K vs H Q E) : vs.length = 0 := by
  unfold sp__law_tree at h
  repeat (obtain ⟨_, h⟩ := h)
  subst_vars
  rfl
theorem len__law_due {K : PySem.W.Frag} {vs : List V} {H : Hp} {Q : VK} {E : XK} (h : sp__law_due K vs H Q E) : vs.length = 1 := by
  unfold sp__law_due at h
  repeat (obtain ⟨_, h⟩ := h)
  subst_vars
  rfl
theorem len__law_told {K : PySem.W.Frag} {vs : List V} {H : Hp} {Q : VK} {E : XK} (h : sp__law_told K vs H Q E) : vs.length = 2 := by
  unfold sp__law_told at h
  repeat (obtain ⟨_, h⟩ := h)
  subst_vars
  rfl
theorem len__law_path {K : PySem.W.Frag} {vs : List V} {H : Hp} {Q : VK} {E : XK} (h : sp__law_path K vs H Q E) : vs.length = 2 := by
  unfold sp__law_path at h
  repeat (obtain ⟨_, h⟩ := h)
  subst_vars
  rfl
theorem len_law {K : PySem.W.Frag} {vs : List V} {H : Hp} {Q : VK} {E : XK} (h : sp_law K vs H Q E) : vs.length = 1 := by
  unfold sp_law at h
  repeat (obtain ⟨_, h⟩ := h)
  subst_vars
  rfl
def Ct_Disk___init__ (P : Program) (w : World) (K : PySem.W.Frag) (mg : Str → Option Value) (base : Heap) : Prop := ∃ fd : FuncData, FnOk P w K mg base (L2.CX P w) 1 (He.ma K (He.ga K "Disk") "__init__") fd ["self", "count"] (sp_Disk___init__ K) ∧ Binds K fd ["self", "count"] [] ∧ PySem.W.keepIn K (.ref (He.ma K (He.ga K "Disk") "__init__")) = true
def Ct_Disk_write (P : Program) (w : World) (K : PySem.W.Frag) (mg : Str → Option Value) (base : Heap) : Prop := ∃ fd : FuncData, FnOk P w K mg base (L2.CX P w) 1 (He.ma K (He.ga K "Disk") "write") fd ["self", "number", "block"] (sp_Disk_write K) ∧ Binds K fd ["self", "number", "block"] [] ∧ PySem.W.keepIn K (.ref (He.ma K (He.ga K "Disk") "write")) = true
def Ct_Disk_barrier (P : Program) (w : World) (K : PySem.W.Frag) (mg : Str → Option Value) (base : Heap) : Prop := ∃ fd : FuncData, FnOk P w K mg base (L2.CX P w) 1 (He.ma K (He.ga K "Disk") "barrier") fd ["self"] (sp_Disk_barrier K) ∧ Binds K fd ["self"] [] ∧ PySem.W.keepIn K (.ref (He.ma K (He.ga K "Disk") "barrier")) = true
def Ct_many_blocks (P : Program) (w : World) (K : PySem.W.Frag) (mg : Str → Option Value) (base : Heap) : Prop := ∃ fd : FuncData, FnOk P w K mg base (L2.CX P w) 1 (He.ga K "many_blocks") fd ["row"] (sp_many_blocks K) ∧ Binds K fd ["row"] [] ∧ PySem.W.keepIn K (.ref (He.ga K "many_blocks")) = true
def Ct_padded (P : Program) (w : World) (K : PySem.W.Frag) (mg : Str → Option Value) (base : Heap) : Prop := ∃ fd : FuncData, FnOk P w K mg base (L2.CX P w) 1 (He.ga K "padded") fd ["row"] (sp_padded K) ∧ Binds K fd ["row"] [] ∧ PySem.W.keepIn K (.ref (He.ga K "padded")) = true
def Ct_write_chain (P : Program) (w : World) (K : PySem.W.Frag) (mg : Str → Option Value) (base : Heap) : Prop := ∃ fd : FuncData, FnOk P w K mg base (L2.CX P w) 2 (He.ga K "write_chain") fd ["disk", "row", "numbers"] (sp_write_chain K) ∧ Binds K fd ["disk", "row", "numbers"] [] ∧ PySem.W.keepIn K (.ref (He.ga K "write_chain")) = true
def Ct_write_root (P : Program) (w : World) (K : PySem.W.Frag) (mg : Str → Option Value) (base : Heap) : Prop := ∃ fd : FuncData, FnOk P w K mg base (L2.CX P w) 2 (He.ga K "write_root") fd ["disk", "slot", "turn", "first"] (sp_write_root K) ∧ Binds K fd ["disk", "slot", "turn", "first"] [] ∧ PySem.W.keepIn K (.ref (He.ga K "write_root")) = true
def Ct_is_name (P : Program) (w : World) (K : PySem.W.Frag) (mg : Str → Option Value) (base : Heap) : Prop := ∃ fd : FuncData, FnOk P w K mg base (L2.CX P w) 1 (He.ga K "is_name") fd ["text"] (sp_is_name K) ∧ Binds K fd ["text"] [] ∧ PySem.W.keepIn K (.ref (He.ga K "is_name")) = true
def Ct_need_name (P : Program) (w : World) (K : PySem.W.Frag) (mg : Str → Option Value) (base : Heap) : Prop := ∃ fd : FuncData, FnOk P w K mg base (L2.CX P w) 2 (He.ga K "need_name") fd ["text"] (sp_need_name K) ∧ Binds K fd ["text"] [] ∧ PySem.W.keepIn K (.ref (He.ga K "need_name")) = true
def Ct_parts (P : Program) (w : World) (K : PySem.W.Frag) (mg : Str → Option Value) (base : Heap) : Prop := ∃ fd : FuncData, FnOk P w K mg base (L2.CX P w) 3 (He.ga K "parts") fd ["path"] (sp_parts K) ∧ Binds K fd ["path"] [] ∧ PySem.W.keepIn K (.ref (He.ga K "parts")) = true
def Ct_Thing___init__ (P : Program) (w : World) (K : PySem.W.Frag) (mg : Str → Option Value) (base : Heap) : Prop := ∃ fd : FuncData, FnOk P w K mg base (L2.CX P w) 1 (He.ma K (He.ga K "Thing") "__init__") fd ["self", "kind", "held", "entries"] (sp_Thing___init__ K) ∧ Binds K fd ["self", "kind", "held", "entries"] [] ∧ PySem.W.keepIn K (.ref (He.ma K (He.ga K "Thing") "__init__")) = true
def Ct_fresh (P : Program) (w : World) (K : PySem.W.Frag) (mg : Str → Option Value) (base : Heap) : Prop := ∃ fd : FuncData, FnOk P w K mg base (L2.CX P w) 3 (He.ga K "fresh") fd [] (sp_fresh K) ∧ Binds K fd [] [] ∧ PySem.W.keepIn K (.ref (He.ga K "fresh")) = true
def Ct_copied (P : Program) (w : World) (K : PySem.W.Frag) (mg : Str → Option Value) (base : Heap) : Prop := ∃ fd : FuncData, FnOk P w K mg base (L2.CX P w) 3 (He.ga K "copied") fd ["state"] (sp_copied K) ∧ Binds K fd ["state"] [] ∧ PySem.W.keepIn K (.ref (He.ga K "copied")) = true
def Ct_least_free (P : Program) (w : World) (K : PySem.W.Frag) (mg : Str → Option Value) (base : Heap) : Prop := ∃ fd : FuncData, FnOk P w K mg base (L2.CX P w) 1 (He.ga K "least_free") fd ["state"] (sp_least_free K) ∧ Binds K fd ["state"] [] ∧ PySem.W.keepIn K (.ref (He.ga K "least_free")) = true
def Ct_entry_of (P : Program) (w : World) (K : PySem.W.Frag) (mg : Str → Option Value) (base : Heap) : Prop := ∃ fd : FuncData, FnOk P w K mg base (L2.CX P w) 1 (He.ga K "entry_of") fd ["state", "number", "name"] (sp_entry_of K) ∧ Binds K fd ["state", "number", "name"] [] ∧ PySem.W.keepIn K (.ref (He.ga K "entry_of")) = true
def Ct_walked (P : Program) (w : World) (K : PySem.W.Frag) (mg : Str → Option Value) (base : Heap) : Prop := ∃ fd : FuncData, FnOk P w K mg base (L2.CX P w) 2 (He.ga K "walked") fd ["state", "names"] (sp_walked K) ∧ Binds K fd ["state", "names"] [] ∧ PySem.W.keepIn K (.ref (He.ga K "walked")) = true
def Ct_place_of (P : Program) (w : World) (K : PySem.W.Frag) (mg : Str → Option Value) (base : Heap) : Prop := ∃ fd : FuncData, FnOk P w K mg base (L2.CX P w) 3 (He.ga K "place_of") fd ["state", "names"] (sp_place_of K) ∧ Binds K fd ["state", "names"] [] ∧ PySem.W.keepIn K (.ref (He.ga K "place_of")) = true
def Ct_text_bytes (P : Program) (w : World) (K : PySem.W.Frag) (mg : Str → Option Value) (base : Heap) : Prop := ∃ fd : FuncData, FnOk P w K mg base (L2.CX P w) 1 (He.ga K "text_bytes") fd ["text"] (sp_text_bytes K) ∧ Binds K fd ["text"] [] ∧ PySem.W.keepIn K (.ref (He.ga K "text_bytes")) = true
def Ct_thing_bytes (P : Program) (w : World) (K : PySem.W.Frag) (mg : Str → Option Value) (base : Heap) : Prop := ∃ fd : FuncData, FnOk P w K mg base (L2.CX P w) 2 (He.ga K "thing_bytes") fd ["number", "thing"] (sp_thing_bytes K) ∧ Binds K fd ["number", "thing"] [] ∧ PySem.W.keepIn K (.ref (He.ga K "thing_bytes")) = true
def Ct_state_bytes (P : Program) (w : World) (K : PySem.W.Frag) (mg : Str → Option Value) (base : Heap) : Prop := ∃ fd : FuncData, FnOk P w K mg base (L2.CX P w) 3 (He.ga K "state_bytes") fd ["state"] (sp_state_bytes K) ∧ Binds K fd ["state"] [] ∧ PySem.W.keepIn K (.ref (He.ga K "state_bytes")) = true
def Ct_image (P : Program) (w : World) (K : PySem.W.Frag) (mg : Str → Option Value) (base : Heap) : Prop := ∃ fd : FuncData, FnOk P w K mg base (L2.CX P w) 4 (He.ga K "image") fd ["state", "snaps"] (sp_image K) ∧ Binds K fd ["state", "snaps"] [] ∧ PySem.W.keepIn K (.ref (He.ga K "image")) = true
def Ct_Files___init__ (P : Program) (w : World) (K : PySem.W.Frag) (mg : Str → Option Value) (base : Heap) : Prop := ∃ fd : FuncData, FnOk P w K mg base (L2.CX P w) 1 (He.ma K (He.ga K "Files") "__init__") fd ["self", "disk", "state", "snaps"] (sp_Files___init__ K) ∧ Binds K fd ["self", "disk", "state", "snaps"] [] ∧ PySem.W.keepIn K (.ref (He.ma K (He.ga K "Files") "__init__")) = true
def Ct_Files_may_write (P : Program) (w : World) (K : PySem.W.Frag) (mg : Str → Option Value) (base : Heap) : Prop := ∃ fd : FuncData, FnOk P w K mg base (L2.CX P w) 1 (He.ma K (He.ga K "Files") "may_write") fd ["self"] (sp_Files_may_write K) ∧ Binds K fd ["self"] [] ∧ PySem.W.keepIn K (.ref (He.ma K (He.ga K "Files") "may_write")) = true
def Ct_Files_become (P : Program) (w : World) (K : PySem.W.Frag) (mg : Str → Option Value) (base : Heap) : Prop := ∃ fd : FuncData, FnOk P w K mg base (L2.CX P w) 5 (He.ma K (He.ga K "Files") "become") fd ["self", "state", "snaps"] (sp_Files_become K) ∧ Binds K fd ["self", "state", "snaps"] [] ∧ PySem.W.keepIn K (.ref (He.ma K (He.ga K "Files") "become")) = true
def Ct_Files_find (P : Program) (w : World) (K : PySem.W.Frag) (mg : Str → Option Value) (base : Heap) : Prop := ∃ fd : FuncData, FnOk P w K mg base (L2.CX P w) 4 (He.ma K (He.ga K "Files") "find") fd ["self", "path"] (sp_Files_find K) ∧ Binds K fd ["self", "path"] [] ∧ PySem.W.keepIn K (.ref (He.ma K (He.ga K "Files") "find")) = true
def Ct_Files_place_for (P : Program) (w : World) (K : PySem.W.Frag) (mg : Str → Option Value) (base : Heap) : Prop := ∃ fd : FuncData, FnOk P w K mg base (L2.CX P w) 4 (He.ma K (He.ga K "Files") "place_for") fd ["self", "names"] (sp_Files_place_for K) ∧ Binds K fd ["self", "names"] [] ∧ PySem.W.keepIn K (.ref (He.ma K (He.ga K "Files") "place_for")) = true
def Ct_Files_make (P : Program) (w : World) (K : PySem.W.Frag) (mg : Str → Option Value) (base : Heap) : Prop := ∃ fd : FuncData, FnOk P w K mg base (L2.CX P w) 6 (He.ma K (He.ga K "Files") "make") fd ["self", "path", "kind"] (sp_Files_make K) ∧ Binds K fd ["self", "path", "kind"] [] ∧ PySem.W.keepIn K (.ref (He.ma K (He.ga K "Files") "make")) = true
def Ct_formatted (P : Program) (w : World) (K : PySem.W.Frag) (mg : Str → Option Value) (base : Heap) : Prop := ∃ fd : FuncData, FnOk P w K mg base (L2.CX P w) 5 (He.ga K "formatted") fd ["disk"] (sp_formatted K) ∧ Binds K fd ["disk"] [] ∧ PySem.W.keepIn K (.ref (He.ga K "formatted")) = true
def Ct__law_cell (P : Program) (w : World) (K : PySem.W.Frag) (mg : Str → Option Value) (base : Heap) : Prop := ∃ fd : FuncData, FnOk P w K mg base (L2.CX P w) 1 (He.ga K "_law_cell") fd ["_law_script", "_law_k"] (sp__law_cell K) ∧ Binds K fd ["_law_script", "_law_k"] [] ∧ PySem.W.keepIn K (.ref (He.ga K "_law_cell")) = true
def Ct__law_drawn (P : Program) (w : World) (K : PySem.W.Frag) (mg : Str → Option Value) (base : Heap) : Prop := ∃ fd : FuncData, FnOk P w K mg base (L2.CX P w) 1 (He.ga K "_law_drawn") fd ["_law_cell_here", "_law_k"] (sp__law_drawn K) ∧ Binds K fd ["_law_cell_here", "_law_k"] [] ∧ PySem.W.keepIn K (.ref (He.ga K "_law_drawn")) = true
def Ct__law_word (P : Program) (w : World) (K : PySem.W.Frag) (mg : Str → Option Value) (base : Heap) : Prop := ∃ fd : FuncData, FnP P w K mg base 1 (He.ga K "_law_word") fd ["_law_e"] (sp__law_word K) ∧ Binds K fd ["_law_e"] [] ∧ PySem.W.keepIn K (.ref (He.ga K "_law_word")) = true
def Ct__law_is_name (P : Program) (w : World) (K : PySem.W.Frag) (mg : Str → Option Value) (base : Heap) : Prop := ∃ fd : FuncData, FnOk P w K mg base (L2.CX P w) 1 (He.ga K "_law_is_name") fd ["_law_name"] (sp__law_is_name K) ∧ Binds K fd ["_law_name"] [] ∧ PySem.W.keepIn K (.ref (He.ga K "_law_is_name")) = true
def Ct__law_tree (P : Program) (w : World) (K : PySem.W.Frag) (mg : Str → Option Value) (base : Heap) : Prop := ∃ fd : FuncData, FnOk P w K mg base (L2.CX P w) 1 (He.ga K "_law_tree") fd [] (sp__law_tree K) ∧ Binds K fd [] [] ∧ PySem.W.keepIn K (.ref (He.ga K "_law_tree")) = true
def Ct__law_due (P : Program) (w : World) (K : PySem.W.Frag) (mg : Str → Option Value) (base : Heap) : Prop := ∃ fd : FuncData, FnOk P w K mg base (L2.CX P w) 2 (He.ga K "_law_due") fd ["_law_path_here"] (sp__law_due K) ∧ Binds K fd ["_law_path_here"] [] ∧ PySem.W.keepIn K (.ref (He.ga K "_law_due")) = true
def Ct__law_told (P : Program) (w : World) (K : PySem.W.Frag) (mg : Str → Option Value) (base : Heap) : Prop := ∃ fd : FuncData, FnOk P w K mg base (L2.CX P w) 5 (He.ga K "_law_told") fd ["_law_files", "_law_path_here"] (sp__law_told K) ∧ Binds K fd ["_law_files", "_law_path_here"] [] ∧ PySem.W.keepIn K (.ref (He.ga K "_law_told")) = true
def Ct__law_path (P : Program) (w : World) (K : PySem.W.Frag) (mg : Str → Option Value) (base : Heap) : Prop := ∃ fd : FuncData, FnOk P w K mg base (L2.CX P w) 1 (He.ga K "_law_path") fd ["_law_cell_here", "_law_more"] (sp__law_path K) ∧ Binds K fd ["_law_cell_here", "_law_more"] [] ∧ PySem.W.keepIn K (.ref (He.ga K "_law_path")) = true
def Ct_law (P : Program) (w : World) (K : PySem.W.Frag) (mg : Str → Option Value) (base : Heap) : Prop := ∃ fd : FuncData, FnOk P w K mg base (L2.CX P w) 7 (He.ga K "law") fd ["_law_script"] (sp_law K) ∧ Binds K fd ["_law_script"] [] ∧ PySem.W.keepIn K (.ref (He.ga K "law")) = true
theorem ok_Disk___init__ {P : Program} {w : World} {K : PySem.W.Frag} {mg : Str → Option Value} {base : Heap} (T : Tx K mg) : Ct_Disk___init__ P w K mg base := by
  obtain ⟨fd, F⟩ := T.d_Disk___init__
  refine ⟨fd, FunD.ok F sc_Disk___init__ (fun vs H Q E h => len_Disk___init__ h) (fun cdv A outer s H vs Q E hr h => ?_), FunD.bindsN F fun _ _ _ _ _ _ us hl => match us, hl with | [_, _], _ => rfl, F.kp⟩
  have nd := sc_Disk___init__.nd
  have hu := hu_of hr
  have tk : Takes (cxOf (L2.CX P w) P w K mg base N_Disk___init__ "Disk.__init__" (defScope s_Disk___init__) (He.ma K (He.ga K "Disk") "__init__") cdv A outer s H E) (WE1 E) := takes_of rfl rfl rfl rfl
  exact ⟨t_Disk___init__ K (WE1 E), asSs (pss_cons (ps_if (pt_not (pt_chain op_le op_le (pe_gint T.i_LEAST) (pv 1) (pe_gint T.i_MOST))) (pss_one (ps_raiseW rfl tk T.e_TooGreat)) pss_nil)
    (pss_cons (ps_fld (pv 0) (pe_op op_rep (pe_lst (pa_cons (pe_op op_repT (pe_tup (pa_cons pe_int pa_nil)) (pe_gint T.i_SIZE)) pa_nil)) (pv 1)) rfl)
    (pss_one (ps_fld (pv 0) (pe_lst pa_nil) rfl)))) rfl, pure_Disk___init__ T.x_Disk h⟩
theorem ok_Disk_write {P : Program} {w : World} {K : PySem.W.Frag} {mg : Str → Option Value} {base : Heap} (T : Tx K mg) : Ct_Disk_write P w K mg base := by
  obtain ⟨fd, F⟩ := T.d_Disk_write
  refine ⟨fd, FunD.ok F sc_Disk_write (fun vs H Q E h => len_Disk_write h) (fun cdv A outer s H vs Q E hr h => ?_), FunD.bindsN F fun _ _ _ _ _ _ us hl => match us, hl with | [_, _, _], _ => rfl, F.kp⟩
  have nd := sc_Disk_write.nd
  have hu := hu_of hr
  have tk : Takes (cxOf (L2.CX P w) P w K mg base N_Disk_write "Disk.write" (defScope s_Disk_write) (He.ma K (He.ga K "Disk") "write") cdv A outer s H E) (WE1 E) := takes_of rfl rfl rfl rfl
  exact ⟨t_Disk_write K (WE1 E), asSs (pss_cons (ps_asg (pv 2) (pg_sub (pe_fld (pv 0) rfl) (pv 1) set_list))
    (pss_one (ps_expr (pe_bm PySem.F.plainAttrs_list PySem.F.slot_list_append PySem.F.type_list_append mt_append (pe_fld (pv 0) rfl) (pa_cons (pe_tup (pa_cons pe_str (pa_cons (pv 1) (pa_cons (pv 2) pa_nil)))) pa_nil))))) rfl, pure_Disk_write T.x_Disk h⟩
theorem ok_Disk_barrier {P : Program} {w : World} {K : PySem.W.Frag} {mg : Str → Option Value} {base : Heap} (T : Tx K mg) : Ct_Disk_barrier P w K mg base := by
  obtain ⟨fd, F⟩ := T.d_Disk_barrier
  refine ⟨fd, FunD.ok F sc_Disk_barrier (fun vs H Q E h => len_Disk_barrier h) (fun cdv A outer s H vs Q E hr h => ?_), FunD.bindsN F fun _ _ _ _ _ _ us hl => match us, hl with | [_], _ => rfl, F.kp⟩
  have nd := sc_Disk_barrier.nd
  have hu := hu_of hr
  have tk : Takes (cxOf (L2.CX P w) P w K mg base N_Disk_barrier "Disk.barrier" (defScope s_Disk_barrier) (He.ma K (He.ga K "Disk") "barrier") cdv A outer s H E) (WE1 E) := takes_of rfl rfl rfl rfl
  exact ⟨t_Disk_barrier K (WE1 E), asSs (pss_one (ps_expr (pe_bm PySem.F.plainAttrs_list PySem.F.slot_list_append PySem.F.type_list_append mt_append (pe_fld (pv 0) rfl) (pa_cons (pe_tup (pa_cons pe_str pa_nil)) pa_nil)))) rfl, pure_Disk_barrier T.x_Disk h⟩
theorem ok_many_blocks {P : Program} {w : World} {K : PySem.W.Frag} {mg : Str → Option Value} {base : Heap} (T : Tx K mg) : Ct_many_blocks P w K mg base := by
  obtain ⟨fd, F⟩ := T.d_many_blocks
  refine ⟨fd, FunD.ok F sc_many_blocks (fun vs H Q E h => len_many_blocks h) (fun cdv A outer s H vs Q E hr h => ?_), FunD.bindsN F fun _ _ _ _ _ _ us hl => match us, hl with | [_], _ => rfl, F.kp⟩
  have nd := sc_many_blocks.nd
  have hu := hu_of hr
  have tk : Takes (cxOf (L2.CX P w) P w K mg base N_many_blocks "many_blocks" (defScope s_many_blocks) (He.ga K "many_blocks") cdv A outer s H E) (WE1 E) := takes_of rfl rfl rfl rfl
  exact ⟨t_many_blocks K (WE1 E), asSs (pss_one (ps_ret (pe_op op_fdiv (pe_op op_sub (pe_op op_add (pe_callB call_lenQn (by rfl) T.b_len (by decide +kernel) (pa_cons (pv 0) pa_nil)) (pe_gint T.i_PAYLOAD)) pe_int) (pe_gint T.i_PAYLOAD)))) rfl, pure_many_blocks h⟩
theorem ok_padded {P : Program} {w : World} {K : PySem.W.Frag} {mg : Str → Option Value} {base : Heap} (T : Tx K mg) : Ct_padded P w K mg base := by
  obtain ⟨fd, F⟩ := T.d_padded
  refine ⟨fd, FunD.ok F sc_padded (fun vs H Q E h => len_padded h) (fun cdv A outer s H vs Q E hr h => ?_), FunD.bindsN F fun _ _ _ _ _ _ us hl => match us, hl with | [_], _ => rfl, F.kp⟩
  have nd := sc_padded.nd
  have hu := hu_of hr
  have tk : Takes (cxOf (L2.CX P w) P w K mg base N_padded "padded" (defScope s_padded) (He.ga K "padded") cdv A outer s H E) (WE1 E) := takes_of rfl rfl rfl rfl
  exact ⟨t_padded K (WE1 E), asSs (pss_one (ps_ret (pe_callTy call_tuplen (by rfl) T.b_tuple (by decide +kernel) (pa_cons (pe_op op_cat (pv 0) (pe_op op_rep (pe_lst (pa_cons pe_int pa_nil)) (pe_op op_sub (pe_gint T.i_SIZE) (pe_callB call_lenQn (by rfl) T.b_len (by decide +kernel) (pa_cons (pv 0) pa_nil))))) pa_nil)))) rfl, pure_padded h⟩
theorem ok_write_chain {P : Program} {w : World} {K : PySem.W.Frag} {mg : Str → Option Value} {base : Heap} (T : Tx K mg) (c_padded : Ct_padded P w K mg base) (c_Disk_write : Ct_Disk_write P w K mg base) : Ct_write_chain P w K mg base := by
  obtain ⟨fd, F⟩ := T.d_write_chain
  obtain ⟨_, G_padded, b_padded, k_padded⟩ := c_padded
  obtain ⟨_, G_Disk_write, b_Disk_write, k_Disk_write⟩ := c_Disk_write
  refine ⟨fd, FunD.ok F sc_write_chain (fun vs H Q E h => len_write_chain h) (fun cdv A outer s H vs Q E hr h => ?_), FunD.bindsN F fun _ _ _ _ _ _ us hl => match us, hl with | [_, _, _], _ => rfl, F.kp⟩
  have nd := sc_write_chain.nd
  have hu := hu_of hr
  have tk : Takes (cxOf (L2.CX P w) P w K mg base N_write_chain "write_chain" (defScope s_write_chain) (He.ga K "write_chain") cdv A outer s H E) (WE1 E) := takes_of rfl rfl rfl rfl
  exact ⟨t_write_chain K (WE1 E), asSs (pss_one (ps_for (passes_of rfl) rfl (pi_range1 rfl T.b_range (pa_cons (pe_callB call_lenQn (by rfl) T.b_len (by decide +kernel) (pa_cons (pv 2) pa_nil)) pa_nil)) (pg_name (i := 3) nd rfl (Or.inl rfl)) (pss_cons (ps_set (i := 4) nd rfl (Or.inl rfl) (pe_slice sl_list (pv 1) (po_some (pe_op op_mul (pv 3) (pe_gint T.i_PAYLOAD))) (po_some (pe_op op_mul (pe_op op_add (pv 3) pe_int) (pe_gint T.i_PAYLOAD)))))
    (pss_cons (ps_set (i := 5) nd rfl (Or.inl rfl) (pe_ix ix_list (pe_op op_cat (pe_slice sl_list (pv 2) (po_some (pe_op op_add (pv 3) pe_int)) po_none) (pe_lst (pa_cons pe_int pa_nil))) pe_int (fun _ _ => rfl)))
    (pss_one (ps_expr (pe_methW (pv 0) T.x_Disk.c T.m_Disk_write G_Disk_write (hr.mono (by decide)) b_Disk_write tk (pa_cons (pe_ix ix_list (pv 2) (pv 3) (fun _ _ => rfl)) (pa_cons (pe_callW G_padded (hr.mono (by decide)) T.g_padded k_padded b_padded tk (pa_cons (pe_op op_cat (pe_lst (pa_cons (pv 5) (pa_cons (pe_callB call_lenQn (by rfl) T.b_len (by decide +kernel) (pa_cons (pv 4) pa_nil)) pa_nil))) (pv 4)) pa_nil)) pa_nil))))))))) rfl, pure_write_chain h⟩
theorem ok_write_root {P : Program} {w : World} {K : PySem.W.Frag} {mg : Str → Option Value} {base : Heap} (T : Tx K mg) (c_padded : Ct_padded P w K mg base) (c_Disk_write : Ct_Disk_write P w K mg base) : Ct_write_root P w K mg base := by
  obtain ⟨fd, F⟩ := T.d_write_root
  obtain ⟨_, G_padded, b_padded, k_padded⟩ := c_padded
  obtain ⟨_, G_Disk_write, b_Disk_write, k_Disk_write⟩ := c_Disk_write
  refine ⟨fd, FunD.ok F sc_write_root (fun vs H Q E h => len_write_root h) (fun cdv A outer s H vs Q E hr h => ?_), FunD.bindsN F fun _ _ _ _ _ _ us hl => match us, hl with | [_, _, _, _], _ => rfl, F.kp⟩
  have nd := sc_write_root.nd
  have hu := hu_of hr
  have tk : Takes (cxOf (L2.CX P w) P w K mg base N_write_root "write_root" (defScope s_write_root) (He.ga K "write_root") cdv A outer s H E) (WE1 E) := takes_of rfl rfl rfl rfl
  exact ⟨t_write_root K (WE1 E), asSs (pss_one (ps_expr (pe_methW (pv 0) T.x_Disk.c T.m_Disk_write G_Disk_write (hr.mono (by decide)) b_Disk_write tk (pa_cons (pv 1) (pa_cons (pe_callW G_padded (hr.mono (by decide)) T.g_padded k_padded b_padded tk (pa_cons (pe_lst (pa_cons (pe_gint T.i_MARK) (pa_cons (pe_op op_mod (pe_op op_fdiv (pv 2) pe_int) pe_int) (pa_cons (pe_op op_mod (pe_op op_fdiv (pv 2) pe_int) pe_int) (pa_cons (pe_op op_mod (pe_op op_fdiv (pv 2) pe_int) pe_int) (pa_cons (pe_op op_mod (pv 2) pe_int) (pa_cons (pv 3) pa_nil))))))) pa_nil)) pa_nil))))) rfl, pure_write_root h⟩
theorem ok_is_name {P : Program} {w : World} {K : PySem.W.Frag} {mg : Str → Option Value} {base : Heap} (T : Tx K mg) : Ct_is_name P w K mg base := by
  obtain ⟨fd, F⟩ := T.d_is_name
  refine ⟨fd, FunD.ok F sc_is_name (fun vs H Q E h => len_is_name h) (fun cdv A outer s H vs Q E hr h => ?_), FunD.bindsN F fun _ _ _ _ _ _ us hl => match us, hl with | [_], _ => rfl, F.kp⟩
  have nd := sc_is_name.nd
  have hu := hu_of hr
  have tk : Takes (cxOf (L2.CX P w) P w K mg base N_is_name "is_name" (defScope s_is_name) (He.ga K "is_name") cdv A outer s H E) (WE1 E) := takes_of rfl rfl rfl rfl
  exact ⟨t_is_name K (WE1 E), asSs (pss_cons (ps_if (PW.pt (pw_or (pt_not (pt_chain op_le op_le pe_int (pe_callB call_lenSn (by rfl) T.b_len (by decide +kernel) (pa_cons (pv 0) pa_nil)) (pe_gint T.i_MOST_NAME))) (pw_or1 (pt_cmpR op_in_seq (pv 0) (pe_tup (pa_cons pe_str (pa_cons pe_str pa_nil))) (by rfl))))) (pss_one (ps_ret pe_bl)) pss_nil)
    (pss_one (ps_ret (pe_callB (cr_all rfl) (by rfl) T.b_all (by decide +kernel) (pa_cons (pe_lc (own := [("sign", 1)]) (g := gName 1) (tt := tYes) (te := uOp rInS (tVar 1) (uC (.str txt_SIGNS))) rfl nd (pi_str (pv 0)) (blkOk_by (N := N_is_name) (sc := defScope s_is_name) (by decide +kernel)) (fun _ _ _ _ _ => pg_name (i := 1) nd rfl (Or.inl rfl)) (fun _ _ _ _ _ => pts_nil) (fun _ _ _ _ _ => asE (pe_cmpR op_inSn (pv 1) (pe_gstr T.z_SIGNS) (by rfl)) rfl)) pa_nil))))) rfl, pure_is_name h⟩
theorem ok_need_name {P : Program} {w : World} {K : PySem.W.Frag} {mg : Str → Option Value} {base : Heap} (T : Tx K mg) (c_is_name : Ct_is_name P w K mg base) : Ct_need_name P w K mg base := by
  obtain ⟨fd, F⟩ := T.d_need_name
  obtain ⟨_, G_is_name, b_is_name, k_is_name⟩ := c_is_name
  refine ⟨fd, FunD.ok F sc_need_name (fun vs H Q E h => len_need_name h) (fun cdv A outer s H vs Q E hr h => ?_), FunD.bindsN F fun _ _ _ _ _ _ us hl => match us, hl with | [_], _ => rfl, F.kp⟩
  have nd := sc_need_name.nd
  have hu := hu_of hr
  have tk : Takes (cxOf (L2.CX P w) P w K mg base N_need_name "need_name" (defScope s_need_name) (He.ga K "need_name") cdv A outer s H E) (WE1 E) := takes_of rfl rfl rfl rfl
  exact ⟨t_need_name K (WE1 E), asSs (pss_one (ps_if (pt_not (pt_val (pe_callW G_is_name (hr.mono (by decide)) T.g_is_name k_is_name b_is_name tk (pa_cons (pv 0) pa_nil)))) (pss_one (ps_raiseW rfl tk T.e_BadName)) pss_nil)) rfl, pure_need_name h⟩
theorem ok_parts {P : Program} {w : World} {K : PySem.W.Frag} {mg : Str → Option Value} {base : Heap} (T : Tx K mg) (c_need_name : Ct_need_name P w K mg base) : Ct_parts P w K mg base := by
  obtain ⟨fd, F⟩ := T.d_parts
  obtain ⟨_, G_need_name, b_need_name, k_need_name⟩ := c_need_name
  refine ⟨fd, FunD.ok F sc_parts (fun vs H Q E h => len_parts h) (fun cdv A outer s H vs Q E hr h => ?_), FunD.bindsN F fun _ _ _ _ _ _ us hl => match us, hl with | [_], _ => rfl, F.kp⟩
  have nd := sc_parts.nd
  have hu := hu_of hr
  have tk : Takes (cxOf (L2.CX P w) P w K mg base N_parts "parts" (defScope s_parts) (He.ga K "parts") cdv A outer s H E) (WE1 E) := takes_of rfl rfl rfl rfl
  exact ⟨t_parts K (WE1 E), asSs (pss_cons (ps_if (pt_cmpR op_eq (pv 0) pe_str (by rfl)) (pss_one (ps_ret (pe_lst pa_nil))) pss_nil)
    (pss_cons (ps_if (PW.pt (pw_or (pt_cmpR op_gt (pe_callB call_lenSn (by rfl) T.b_len (by decide +kernel) (pa_cons (pv 0) pa_nil)) (pe_gint T.i_MOST_PATH) (by rfl)) (pw_or1 (pt_cmpR op_ne (pe_slice sl_str (pv 0) po_none (po_some pe_int)) pe_str (by rfl))))) (pss_one (ps_raiseW rfl tk T.e_BadName)) pss_nil)
    (pss_cons (ps_set (i := 1) nd rfl (Or.inl rfl) (pe_split (pe_slice sl_str (pv 0) (po_some pe_int) po_none) pe_str))
    (pss_cons (ps_for (passes_of rfl) rfl (pi_list (pv 1)) (pg_name (i := 2) nd rfl (Or.inl rfl)) (pss_one (ps_expr (pe_callW G_need_name (hr.mono (by decide)) T.g_need_name k_need_name b_need_name tk (pa_cons (pv 2) pa_nil)))))
    (pss_one (ps_ret (pv 1))))))) rfl, pure_parts h⟩
theorem ok_Thing___init__ {P : Program} {w : World} {K : PySem.W.Frag} {mg : Str → Option Value} {base : Heap} (T : Tx K mg) : Ct_Thing___init__ P w K mg base := by
  obtain ⟨fd, F⟩ := T.d_Thing___init__
  refine ⟨fd, FunD.ok F sc_Thing___init__ (fun vs H Q E h => len_Thing___init__ h) (fun cdv A outer s H vs Q E hr h => ?_), FunD.bindsN F fun _ _ _ _ _ _ us hl => match us, hl with | [_, _, _, _], _ => rfl, F.kp⟩
  have nd := sc_Thing___init__.nd
  have hu := hu_of hr
  have tk : Takes (cxOf (L2.CX P w) P w K mg base N_Thing___init__ "Thing.__init__" (defScope s_Thing___init__) (He.ma K (He.ga K "Thing") "__init__") cdv A outer s H E) (WE1 E) := takes_of rfl rfl rfl rfl
  exact ⟨t_Thing___init__ K (WE1 E), asSs (pss_cons (ps_fld (pv 0) (pv 1) rfl)
    (pss_cons (ps_fld (pv 0) (pe_callTy call_listn (by rfl) T.b_list (by decide +kernel) (pa_cons (pv 2) pa_nil)) rfl)
    (pss_one (ps_fld (pv 0) (pe_callTy call_dictDn (by rfl) T.b_dict (by decide +kernel) (pa_cons (pv 3) pa_nil)) rfl)))) rfl, pure_Thing___init__ T.x_Thing h⟩
theorem ok_fresh {P : Program} {w : World} {K : PySem.W.Frag} {mg : Str → Option Value} {base : Heap} (T : Tx K mg) (c_Thing___init__ : Ct_Thing___init__ P w K mg base) : Ct_fresh P w K mg base := by
  obtain ⟨fd, F⟩ := T.d_fresh
  obtain ⟨_, G_Thing___init__, b_Thing___init__, k_Thing___init__⟩ := c_Thing___init__
  refine ⟨fd, FunD.ok F sc_fresh (fun vs H Q E h => len_fresh h) (fun cdv A outer s H vs Q E hr h => ?_), FunD.bindsN F fun _ _ _ _ _ _ us hl => match us, hl with | [], _ => rfl, F.kp⟩
  have nd := sc_fresh.nd
  have hu := hu_of hr
  have tk : Takes (cxOf (L2.CX P w) P w K mg base N_fresh "fresh" (defScope s_fresh) (He.ga K "fresh") cdv A outer s H E) (WE1 E) := takes_of rfl rfl rfl rfl
  exact ⟨t_fresh K (WE1 E), asSs (pss_one (ps_ret (pe_disp (pps_cons pe_int (pe_makeW T.k_Thing G_Thing___init__ (hr.mono (by decide)) T.g_Thing b_Thing___init__ tk (pa_cons pe_str (pa_cons (pe_lst pa_nil) (pa_cons pe_dnewK pa_nil)))) pps_nil) (by rfl) (by rfl) (fun z => by cases z) (by decide)))) rfl, pure_fresh h⟩
theorem ok_copied {P : Program} {w : World} {K : PySem.W.Frag} {mg : Str → Option Value} {base : Heap} (T : Tx K mg) (c_Thing___init__ : Ct_Thing___init__ P w K mg base) : Ct_copied P w K mg base := by
  obtain ⟨fd, F⟩ := T.d_copied
  obtain ⟨_, G_Thing___init__, b_Thing___init__, k_Thing___init__⟩ := c_Thing___init__
  refine ⟨fd, FunD.ok F sc_copied (fun vs H Q E h => len_copied h) (fun cdv A outer s H vs Q E hr h => ?_), FunD.bindsN F fun _ _ _ _ _ _ us hl => match us, hl with | [_], _ => rfl, F.kp⟩
  have nd := sc_copied.nd
  have hu := hu_of hr
  have tk : Takes (cxOf (L2.CX P w) P w K mg base N_copied "copied" (defScope s_copied) (He.ga K "copied") cdv A outer s H E) (WE1 E) := takes_of rfl rfl rfl rfl
  exact ⟨t_copied K (WE1 E), asSs (pss_cons (ps_set (i := 1) nd rfl (Or.inl rfl) pe_dnewK)
    (pss_cons (ps_lock (ps_for (passes_of rfl) rfl (pi_items (pv 0)) (pg_tup rfl (pgs_cons (pg_name (i := 2) nd rfl (Or.inl rfl)) (pgs_cons (pg_name (i := 3) nd rfl (Or.inl rfl)) pgs_nil))) (pss_one (ps_dput hu (pv 1) (pv 2) (pe_makeW T.k_Thing G_Thing___init__ (hr.mono (by decide)) T.g_Thing b_Thing___init__ tk (pa_cons (pe_fld (pv 3) rfl) (pa_cons (pe_fld (pv 3) rfl) (pa_cons (pe_fld (pv 3) rfl) pa_nil)))) rfl))))
    (pss_one (ps_ret (pv 1))))) rfl, pure_copied T.x_Thing h⟩
theorem ok_least_free {P : Program} {w : World} {K : PySem.W.Frag} {mg : Str → Option Value} {base : Heap} (T : Tx K mg) : Ct_least_free P w K mg base := by
  obtain ⟨fd, F⟩ := T.d_least_free
  refine ⟨fd, FunD.ok F sc_least_free (fun vs H Q E h => len_least_free h) (fun cdv A outer s H vs Q E hr h => ?_), FunD.bindsN F fun _ _ _ _ _ _ us hl => match us, hl with | [_], _ => rfl, F.kp⟩
  have nd := sc_least_free.nd
  have hu := hu_of hr
  have tk : Takes (cxOf (L2.CX P w) P w K mg base N_least_free "least_free" (defScope s_least_free) (He.ga K "least_free") cdv A outer s H E) (WE1 E) := takes_of rfl rfl rfl rfl
  exact ⟨t_least_free K (WE1 E), asSs (pss_cons (ps_set (i := 1) nd rfl (Or.inl rfl) pe_int)
    (pss_cons (ps_while (passes_of rfl) (pt_cmp (pc_din hu (pv 1) (pv 0)) (by rfl)) (pss_one (ps_set (i := 1) nd rfl (Or.inl rfl) (pe_op op_add (pv 1) pe_int))))
    (pss_one (ps_ret (pv 1))))) rfl, pure_least_free h⟩
theorem ok_entry_of {P : Program} {w : World} {K : PySem.W.Frag} {mg : Str → Option Value} {base : Heap} (T : Tx K mg) : Ct_entry_of P w K mg base := by
  obtain ⟨fd, F⟩ := T.d_entry_of
  refine ⟨fd, FunD.ok F sc_entry_of (fun vs H Q E h => len_entry_of h) (fun cdv A outer s H vs Q E hr h => ?_), FunD.bindsN F fun _ _ _ _ _ _ us hl => match us, hl with | [_, _, _], _ => rfl, F.kp⟩
  have nd := sc_entry_of.nd
  have hu := hu_of hr
  have tk : Takes (cxOf (L2.CX P w) P w K mg base N_entry_of "entry_of" (defScope s_entry_of) (He.ga K "entry_of") cdv A outer s H E) (WE1 E) := takes_of rfl rfl rfl rfl
  exact ⟨t_entry_of K (WE1 E), asSs (pss_cons (ps_if (pt_cmpR op_ne (pe_fld (pe_dget hu (pv 0) (pv 1) (fun _ _ => rfl)) rfl) pe_str (by rfl)) (pss_one (ps_raiseW rfl tk T.e_NoDirectory)) pss_nil)
    (pss_cons (ps_if (pt_cmp (pc_dnotin hu (pv 2) (pe_fld (pe_dget hu (pv 0) (pv 1) (fun _ _ => rfl)) rfl)) (by rfl)) (pss_one (ps_raiseW rfl tk T.e_NoThing)) pss_nil)
    (pss_one (ps_ret (pe_dget hu (pe_fld (pe_dget hu (pv 0) (pv 1) (fun _ _ => rfl)) rfl) (pv 2) (fun _ _ => rfl)))))) rfl, pure_entry_of T.x_Thing h⟩
theorem ok_walked {P : Program} {w : World} {K : PySem.W.Frag} {mg : Str → Option Value} {base : Heap} (T : Tx K mg) (c_entry_of : Ct_entry_of P w K mg base) : Ct_walked P w K mg base := by
  obtain ⟨fd, F⟩ := T.d_walked
  obtain ⟨_, G_entry_of, b_entry_of, k_entry_of⟩ := c_entry_of
  refine ⟨fd, FunD.ok F sc_walked (fun vs H Q E h => len_walked h) (fun cdv A outer s H vs Q E hr h => ?_), FunD.bindsN F fun _ _ _ _ _ _ us hl => match us, hl with | [_, _], _ => rfl, F.kp⟩
  have nd := sc_walked.nd
  have hu := hu_of hr
  have tk : Takes (cxOf (L2.CX P w) P w K mg base N_walked "walked" (defScope s_walked) (He.ga K "walked") cdv A outer s H E) (WE1 E) := takes_of rfl rfl rfl rfl
  exact ⟨t_walked K (WE1 E), asSs (pss_cons (ps_set (i := 2) nd rfl (Or.inl rfl) pe_int)
    (pss_cons (ps_for (passes_of rfl) rfl (pi_list (pv 1)) (pg_name (i := 3) nd rfl (Or.inl rfl)) (pss_one (ps_set (i := 2) nd rfl (Or.inl rfl) (pe_callW G_entry_of (hr.mono (by decide)) T.g_entry_of k_entry_of b_entry_of tk (pa_cons (pv 0) (pa_cons (pv 2) (pa_cons (pv 3) pa_nil)))))))
    (pss_one (ps_ret (pv 2))))) rfl, pure_walked h⟩
theorem ok_place_of {P : Program} {w : World} {K : PySem.W.Frag} {mg : Str → Option Value} {base : Heap} (T : Tx K mg) (c_walked : Ct_walked P w K mg base) : Ct_place_of P w K mg base := by
  obtain ⟨fd, F⟩ := T.d_place_of
  obtain ⟨_, G_walked, b_walked, k_walked⟩ := c_walked
  refine ⟨fd, FunD.ok F sc_place_of (fun vs H Q E h => len_place_of h) (fun cdv A outer s H vs Q E hr h => ?_), FunD.bindsN F fun _ _ _ _ _ _ us hl => match us, hl with | [_, _], _ => rfl, F.kp⟩
  have nd := sc_place_of.nd
  have hu := hu_of hr
  have tk : Takes (cxOf (L2.CX P w) P w K mg base N_place_of "place_of" (defScope s_place_of) (He.ga K "place_of") cdv A outer s H E) (WE1 E) := takes_of rfl rfl rfl rfl
  exact ⟨t_place_of K (WE1 E), asSs (pss_cons (ps_set (i := 2) nd rfl (Or.inl rfl) (pe_callW G_walked (hr.mono (by decide)) T.g_walked k_walked b_walked tk (pa_cons (pv 0) (pa_cons (pe_slice sl_list (pv 1) po_none (po_some (pe_un un_negn pe_int))) pa_nil))))
    (pss_cons (ps_if (pt_cmpR op_ne (pe_fld (pe_dget hu (pv 0) (pv 2) (fun _ _ => rfl)) rfl) pe_str (by rfl)) (pss_one (ps_raiseW rfl tk T.e_NoDirectory)) pss_nil)
    (pss_one (ps_ret (pv 2))))) rfl, pure_place_of T.x_Thing h⟩
theorem ok_text_bytes {P : Program} {w : World} {K : PySem.W.Frag} {mg : Str → Option Value} {base : Heap} (T : Tx K mg) : Ct_text_bytes P w K mg base := by
  obtain ⟨fd, F⟩ := T.d_text_bytes
  refine ⟨fd, FunD.ok F sc_text_bytes (fun vs H Q E h => len_text_bytes h) (fun cdv A outer s H vs Q E hr h => ?_), FunD.bindsN F fun _ _ _ _ _ _ us hl => match us, hl with | [_], _ => rfl, F.kp⟩
  have nd := sc_text_bytes.nd
  have hu := hu_of hr
  have tk : Takes (cxOf (L2.CX P w) P w K mg base N_text_bytes "text_bytes" (defScope s_text_bytes) (He.ga K "text_bytes") cdv A outer s H E) (WE1 E) := takes_of rfl rfl rfl rfl
  exact ⟨t_text_bytes K (WE1 E), asSs (pss_one (ps_ret (pe_op op_cat (pe_lst (pa_cons (pe_callB call_lenSn (by rfl) T.b_len (by decide +kernel) (pa_cons (pv 0) pa_nil)) pa_nil)) (pe_lc (own := [("sign", 1)]) (g := gName 1) (tt := tYes) (te := uCB cOrd (uCons (tVar 1) uNil)) rfl nd (pi_str (pv 0)) (blkOk_by (N := N_text_bytes) (sc := defScope s_text_bytes) (by decide +kernel)) (fun _ _ _ _ _ => pg_name (i := 1) nd rfl (Or.inl rfl)) (fun _ _ _ _ _ => pts_nil) (fun _ _ _ _ _ => asE (pe_callB call_ordn (by rfl) T.b_ord (by decide +kernel) (pa_cons (pv 1) pa_nil)) rfl))))) rfl, pure_text_bytes h⟩
theorem ok_thing_bytes {P : Program} {w : World} {K : PySem.W.Frag} {mg : Str → Option Value} {base : Heap} (T : Tx K mg) (c_text_bytes : Ct_text_bytes P w K mg base) : Ct_thing_bytes P w K mg base := by
  obtain ⟨fd, F⟩ := T.d_thing_bytes
  obtain ⟨_, G_text_bytes, b_text_bytes, k_text_bytes⟩ := c_text_bytes
  refine ⟨fd, FunD.ok F sc_thing_bytes (fun vs H Q E h => len_thing_bytes h) (fun cdv A outer s H vs Q E hr h => ?_), FunD.bindsN F fun _ _ _ _ _ _ us hl => match us, hl with | [_, _], _ => rfl, F.kp⟩
  have nd := sc_thing_bytes.nd
  have hu := hu_of hr
  have tk : Takes (cxOf (L2.CX P w) P w K mg base N_thing_bytes "thing_bytes" (defScope s_thing_bytes) (He.ga K "thing_bytes") cdv A outer s H E) (WE1 E) := takes_of rfl rfl rfl rfl
  exact ⟨t_thing_bytes K (WE1 E), asSs (pss_cons (ps_if (pt_cmpR op_eq (pe_fld (pv 1) rfl) pe_str (by rfl)) (pss_cons (ps_set (i := 2) nd rfl (Or.inl rfl) (pe_lst (pa_cons (pv 0) (pa_cons pe_int (pa_cons (pe_callB call_lenDn (by rfl) T.b_len (by decide +kernel) (pa_cons (pe_fld (pv 1) rfl) pa_nil)) pa_nil)))))
    (pss_cons (ps_for (passes_of rfl) rfl (pi_list (pe_callB (call_sortedDn rfl) (by rfl) T.b_sorted (by decide +kernel) (pa_cons (pe_fld (pv 1) rfl) pa_nil))) (pg_name (i := 3) nd rfl (Or.inl rfl)) (pss_one (ps_set (i := 2) nd rfl (Or.inl rfl) (pe_op op_cat (pe_op op_cat (pv 2) (pe_lst (pa_cons (pe_dget hu (pe_fld (pv 1) rfl) (pv 3) (fun _ _ => rfl)) pa_nil))) (pe_callW G_text_bytes (hr.mono (by decide)) T.g_text_bytes k_text_bytes b_text_bytes tk (pa_cons (pv 3) pa_nil))))))
    (pss_one (ps_ret (pv 2))))) pss_nil)
    (pss_one (ps_ret (pe_op op_cat (pe_lst (pa_cons (pv 0) (pa_cons pe_int (pa_cons (pe_op op_fdiv (pe_callB call_lenQn (by rfl) T.b_len (by decide +kernel) (pa_cons (pe_fld (pv 1) rfl) pa_nil)) pe_int) (pa_cons (pe_op op_mod (pe_callB call_lenQn (by rfl) T.b_len (by decide +kernel) (pa_cons (pe_fld (pv 1) rfl) pa_nil)) pe_int) pa_nil))))) (pe_fld (pv 1) rfl))))) rfl, pure_thing_bytes T.x_Thing h⟩
theorem ok_state_bytes {P : Program} {w : World} {K : PySem.W.Frag} {mg : Str → Option Value} {base : Heap} (T : Tx K mg) (c_thing_bytes : Ct_thing_bytes P w K mg base) : Ct_state_bytes P w K mg base := by
  obtain ⟨fd, F⟩ := T.d_state_bytes
  obtain ⟨_, G_thing_bytes, b_thing_bytes, k_thing_bytes⟩ := c_thing_bytes
  refine ⟨fd, FunD.ok F sc_state_bytes (fun vs H Q E h => len_state_bytes h) (fun cdv A outer s H vs Q E hr h => ?_), FunD.bindsN F fun _ _ _ _ _ _ us hl => match us, hl with | [_], _ => rfl, F.kp⟩
  have nd := sc_state_bytes.nd
  have hu := hu_of hr
  have tk : Takes (cxOf (L2.CX P w) P w K mg base N_state_bytes "state_bytes" (defScope s_state_bytes) (He.ga K "state_bytes") cdv A outer s H E) (WE1 E) := takes_of rfl rfl rfl rfl
  exact ⟨t_state_bytes K (WE1 E), asSs (pss_cons (ps_set (i := 1) nd rfl (Or.inl rfl) (pe_lst (pa_cons (pe_callB call_lenDn (by rfl) T.b_len (by decide +kernel) (pa_cons (pv 0) pa_nil)) pa_nil)))
    (pss_cons (ps_for (passes_of rfl) rfl (pi_list (pe_callB (call_sortedDIn rfl) (by rfl) T.b_sorted (by decide +kernel) (pa_cons (pv 0) pa_nil))) (pg_name (i := 2) nd rfl (Or.inl rfl)) (pss_one (ps_set (i := 1) nd rfl (Or.inl rfl) (pe_op op_cat (pv 1) (pe_callW G_thing_bytes (hr.mono (by decide)) T.g_thing_bytes k_thing_bytes b_thing_bytes tk (pa_cons (pv 2) (pa_cons (pe_dget hu (pv 0) (pv 2) (fun _ _ => rfl)) pa_nil)))))))
    (pss_one (ps_ret (pv 1))))) rfl, pure_state_bytes h⟩
theorem ok_image {P : Program} {w : World} {K : PySem.W.Frag} {mg : Str → Option Value} {base : Heap} (T : Tx K mg) (c_state_bytes : Ct_state_bytes P w K mg base) (c_text_bytes : Ct_text_bytes P w K mg base) : Ct_image P w K mg base := by
  obtain ⟨fd, F⟩ := T.d_image
  obtain ⟨_, G_state_bytes, b_state_bytes, k_state_bytes⟩ := c_state_bytes
  obtain ⟨_, G_text_bytes, b_text_bytes, k_text_bytes⟩ := c_text_bytes
  refine ⟨fd, FunD.ok F sc_image (fun vs H Q E h => len_image h) (fun cdv A outer s H vs Q E hr h => ?_), FunD.bindsN F fun _ _ _ _ _ _ us hl => match us, hl with | [_, _], _ => rfl, F.kp⟩
  have nd := sc_image.nd
  have hu := hu_of hr
  have tk : Takes (cxOf (L2.CX P w) P w K mg base N_image "image" (defScope s_image) (He.ga K "image") cdv A outer s H E) (WE1 E) := takes_of rfl rfl rfl rfl
  exact ⟨t_image K (WE1 E), asSs (pss_cons (ps_set (i := 2) nd rfl (Or.inl rfl) (pe_op op_cat (pe_lst (pa_cons (pe_callB call_lenDn (by rfl) T.b_len (by decide +kernel) (pa_cons (pv 1) pa_nil)) pa_nil)) (pe_callW G_state_bytes (hr.mono (by decide)) T.g_state_bytes k_state_bytes b_state_bytes tk (pa_cons (pv 0) pa_nil))))
    (pss_cons (ps_for (passes_of rfl) rfl (pi_list (pe_callB (call_sortedDn rfl) (by rfl) T.b_sorted (by decide +kernel) (pa_cons (pv 1) pa_nil))) (pg_name (i := 3) nd rfl (Or.inl rfl)) (pss_one (ps_set (i := 2) nd rfl (Or.inl rfl) (pe_op op_cat (pe_op op_cat (pv 2) (pe_callW G_text_bytes (hr.mono (by decide)) T.g_text_bytes k_text_bytes b_text_bytes tk (pa_cons (pv 3) pa_nil))) (pe_callW G_state_bytes (hr.mono (by decide)) T.g_state_bytes k_state_bytes b_state_bytes tk (pa_cons (pe_dget hu (pv 1) (pv 3) (fun _ _ => rfl)) pa_nil))))))
    (pss_one (ps_ret (pv 2))))) rfl, pure_image h⟩
theorem ok_Files___init__ {P : Program} {w : World} {K : PySem.W.Frag} {mg : Str → Option Value} {base : Heap} (T : Tx K mg) : Ct_Files___init__ P w K mg base := by
  obtain ⟨fd, F⟩ := T.d_Files___init__
  refine ⟨fd, FunD.ok F sc_Files___init__ (fun vs H Q E h => len_Files___init__ h) (fun cdv A outer s H vs Q E hr h => ?_), FunD.bindsN F fun _ _ _ _ _ _ us hl => match us, hl with | [_, _, _, _], _ => rfl, F.kp⟩
  have nd := sc_Files___init__.nd
  have hu := hu_of hr
  have tk : Takes (cxOf (L2.CX P w) P w K mg base N_Files___init__ "Files.__init__" (defScope s_Files___init__) (He.ma K (He.ga K "Files") "__init__") cdv A outer s H E) (WE1 E) := takes_of rfl rfl rfl rfl
  exact ⟨t_Files___init__ K (WE1 E), asSs (pss_cons (ps_fld (pv 0) (pv 1) rfl)
    (pss_cons (ps_fld (pv 0) (pv 2) rfl)
    (pss_cons (ps_fld (pv 0) (pv 3) rfl)
    (pss_cons (ps_fld (pv 0) pe_int rfl)
    (pss_cons (ps_fld (pv 0) pe_int rfl)
    (pss_cons (ps_fld (pv 0) (pe_lst pa_nil) rfl)
    (pss_one (ps_fld (pv 0) pe_bl rfl)))))))) rfl, pure_Files___init__ T.x_Files h⟩
theorem ok_Files_may_write {P : Program} {w : World} {K : PySem.W.Frag} {mg : Str → Option Value} {base : Heap} (T : Tx K mg) : Ct_Files_may_write P w K mg base := by
  obtain ⟨fd, F⟩ := T.d_Files_may_write
  refine ⟨fd, FunD.ok F sc_Files_may_write (fun vs H Q E h => len_Files_may_write h) (fun cdv A outer s H vs Q E hr h => ?_), FunD.bindsN F fun _ _ _ _ _ _ us hl => match us, hl with | [_], _ => rfl, F.kp⟩
  have nd := sc_Files_may_write.nd
  have hu := hu_of hr
  have tk : Takes (cxOf (L2.CX P w) P w K mg base N_Files_may_write "Files.may_write" (defScope s_Files_may_write) (He.ma K (He.ga K "Files") "may_write") cdv A outer s H E) (WE1 E) := takes_of rfl rfl rfl rfl
  exact ⟨t_Files_may_write K (WE1 E), asSs (pss_one (ps_if (pt_cmpR op_isNn (pe_fld (pv 0) rfl) pe_non (by rfl)) (pss_one (ps_raiseW rfl tk T.e_ReadOnly)) pss_nil)) rfl, pure_Files_may_write T.x_Files h⟩
theorem ok_Files_become {P : Program} {w : World} {K : PySem.W.Frag} {mg : Str → Option Value} {base : Heap} (T : Tx K mg) (c_image : Ct_image P w K mg base) (c_many_blocks : Ct_many_blocks P w K mg base) : Ct_Files_become P w K mg base := by
  obtain ⟨fd, F⟩ := T.d_Files_become
  obtain ⟨_, G_image, b_image, k_image⟩ := c_image
  obtain ⟨_, G_many_blocks, b_many_blocks, k_many_blocks⟩ := c_many_blocks
  refine ⟨fd, FunD.ok F sc_Files_become (fun vs H Q E h => len_Files_become h) (fun cdv A outer s H vs Q E hr h => ?_), FunD.bindsN F fun _ _ _ _ _ _ us hl => match us, hl with | [_, _, _], _ => rfl, F.kp⟩
  have nd := sc_Files_become.nd
  have hu := hu_of hr
  have tk : Takes (cxOf (L2.CX P w) P w K mg base N_Files_become "Files.become" (defScope s_Files_become) (He.ma K (He.ga K "Files") "become") cdv A outer s H E) (WE1 E) := takes_of rfl rfl rfl rfl
  exact ⟨t_Files_become K (WE1 E), asSs (pss_cons (ps_if (pt_cmpR op_gt (pe_op op_add (pe_op op_add (pe_callW G_many_blocks (hr.mono (by decide)) T.g_many_blocks k_many_blocks b_many_blocks tk (pa_cons (pe_callW G_image (hr.mono (by decide)) T.g_image k_image b_image tk (pa_cons (pv 1) (pa_cons (pv 2) pa_nil))) pa_nil)) (pe_callB call_lenQn (by rfl) T.b_len (by decide +kernel) (pa_cons (pe_fld (pv 0) rfl) pa_nil))) (pe_gint T.i_FIRST)) (pe_callB call_lenQn (by rfl) T.b_len (by decide +kernel) (pa_cons (pe_fld (pe_fld (pv 0) rfl) rfl) pa_nil)) (by rfl)) (pss_one (ps_raiseW rfl tk T.e_NoRoom)) pss_nil)
    (pss_cons (ps_fld (pv 0) (pv 1) rfl)
    (pss_cons (ps_fld (pv 0) (pv 2) rfl)
    (pss_one (ps_fld (pv 0) pe_bl rfl))))) rfl, pure_Files_become T.x_Disk T.x_Files h⟩
theorem ok_Files_find {P : Program} {w : World} {K : PySem.W.Frag} {mg : Str → Option Value} {base : Heap} (T : Tx K mg) (c_parts : Ct_parts P w K mg base) (c_walked : Ct_walked P w K mg base) : Ct_Files_find P w K mg base := by
  obtain ⟨fd, F⟩ := T.d_Files_find
  obtain ⟨_, G_parts, b_parts, k_parts⟩ := c_parts
  obtain ⟨_, G_walked, b_walked, k_walked⟩ := c_walked
  refine ⟨fd, FunD.ok F sc_Files_find (fun vs H Q E h => len_Files_find h) (fun cdv A outer s H vs Q E hr h => ?_), FunD.bindsN F fun _ _ _ _ _ _ us hl => match us, hl with | [_, _], _ => rfl, F.kp⟩
  have nd := sc_Files_find.nd
  have hu := hu_of hr
  have tk : Takes (cxOf (L2.CX P w) P w K mg base N_Files_find "Files.find" (defScope s_Files_find) (He.ma K (He.ga K "Files") "find") cdv A outer s H E) (WE1 E) := takes_of rfl rfl rfl rfl
  exact ⟨t_Files_find K (WE1 E), asSs (pss_one (ps_ret (pe_callW G_walked (hr.mono (by decide)) T.g_walked k_walked b_walked tk (pa_cons (pe_fld (pv 0) rfl) (pa_cons (pe_callW G_parts (hr.mono (by decide)) T.g_parts k_parts b_parts tk (pa_cons (pv 1) pa_nil)) pa_nil))))) rfl, pure_Files_find T.x_Files h⟩
theorem ok_Files_place_for {P : Program} {w : World} {K : PySem.W.Frag} {mg : Str → Option Value} {base : Heap} (T : Tx K mg) (c_place_of : Ct_place_of P w K mg base) : Ct_Files_place_for P w K mg base := by
  obtain ⟨fd, F⟩ := T.d_Files_place_for
  obtain ⟨_, G_place_of, b_place_of, k_place_of⟩ := c_place_of
  refine ⟨fd, FunD.ok F sc_Files_place_for (fun vs H Q E h => len_Files_place_for h) (fun cdv A outer s H vs Q E hr h => ?_), FunD.bindsN F fun _ _ _ _ _ _ us hl => match us, hl with | [_, _], _ => rfl, F.kp⟩
  have nd := sc_Files_place_for.nd
  have hu := hu_of hr
  have tk : Takes (cxOf (L2.CX P w) P w K mg base N_Files_place_for "Files.place_for" (defScope s_Files_place_for) (He.ma K (He.ga K "Files") "place_for") cdv A outer s H E) (WE1 E) := takes_of rfl rfl rfl rfl
  exact ⟨t_Files_place_for K (WE1 E), asSs (pss_cons (ps_if (pt_cmpR (op_eqD (Room.units hr)) (pv 1) (pe_lst pa_nil) (by rfl)) (pss_one (ps_raiseW rfl tk T.e_IsThere)) pss_nil)
    (pss_cons (ps_set (i := 2) nd rfl (Or.inl rfl) (pe_callW G_place_of (hr.mono (by decide)) T.g_place_of k_place_of b_place_of tk (pa_cons (pe_fld (pv 0) rfl) (pa_cons (pv 1) pa_nil))))
    (pss_cons (ps_if (pt_cmp (pc_din hu (pe_ix ix_list (pv 1) (pe_un un_negn pe_int) (fun _ _ => rfl)) (pe_fld (pe_dget hu (pe_fld (pv 0) rfl) (pv 2) (fun _ _ => rfl)) rfl)) (by rfl)) (pss_one (ps_raiseW rfl tk T.e_IsThere)) pss_nil)
    (pss_one (ps_ret (pv 2)))))) rfl, pure_Files_place_for T.x_Thing T.x_Files h⟩
theorem ok_Files_make {P : Program} {w : World} {K : PySem.W.Frag} {mg : Str → Option Value} {base : Heap} (T : Tx K mg) (c_Files_may_write : Ct_Files_may_write P w K mg base) (c_parts : Ct_parts P w K mg base) (c_Files_place_for : Ct_Files_place_for P w K mg base) (c_least_free : Ct_least_free P w K mg base) (c_copied : Ct_copied P w K mg base) (c_Thing___init__ : Ct_Thing___init__ P w K mg base) (c_Files_become : Ct_Files_become P w K mg base) : Ct_Files_make P w K mg base := by
  obtain ⟨fd, F⟩ := T.d_Files_make
  obtain ⟨_, G_Files_may_write, b_Files_may_write, k_Files_may_write⟩ := c_Files_may_write
  obtain ⟨_, G_parts, b_parts, k_parts⟩ := c_parts
  obtain ⟨_, G_Files_place_for, b_Files_place_for, k_Files_place_for⟩ := c_Files_place_for
  obtain ⟨_, G_least_free, b_least_free, k_least_free⟩ := c_least_free
  obtain ⟨_, G_copied, b_copied, k_copied⟩ := c_copied
  obtain ⟨_, G_Thing___init__, b_Thing___init__, k_Thing___init__⟩ := c_Thing___init__
  obtain ⟨_, G_Files_become, b_Files_become, k_Files_become⟩ := c_Files_become
  refine ⟨fd, FunD.ok F sc_Files_make (fun vs H Q E h => len_Files_make h) (fun cdv A outer s H vs Q E hr h => ?_), FunD.bindsN F fun _ _ _ _ _ _ us hl => match us, hl with | [_, _, _], _ => rfl, F.kp⟩
  have nd := sc_Files_make.nd
  have hu := hu_of hr
  have tk : Takes (cxOf (L2.CX P w) P w K mg base N_Files_make "Files.make" (defScope s_Files_make) (He.ma K (He.ga K "Files") "make") cdv A outer s H E) (WE1 E) := takes_of rfl rfl rfl rfl
  exact ⟨t_Files_make K (WE1 E), asSs (pss_cons (ps_expr (pe_methW0 (pv 0) T.x_Files.c T.m_Files_may_write G_Files_may_write (hr.mono (by decide)) b_Files_may_write tk))
    (pss_cons (ps_set (i := 3) nd rfl (Or.inl rfl) (pe_callW G_parts (hr.mono (by decide)) T.g_parts k_parts b_parts tk (pa_cons (pv 1) pa_nil)))
    (pss_cons (ps_set (i := 4) nd rfl (Or.inl rfl) (pe_methW (pv 0) T.x_Files.c T.m_Files_place_for G_Files_place_for (hr.mono (by decide)) b_Files_place_for tk (pa_cons (pv 3) pa_nil)))
    (pss_cons (ps_set (i := 5) nd rfl (Or.inl rfl) (pe_callW G_least_free (hr.mono (by decide)) T.g_least_free k_least_free b_least_free tk (pa_cons (pe_fld (pv 0) rfl) pa_nil)))
    (pss_cons (ps_if (PW.pt (pw_or (pt_cmpR op_eq (pv 5) (pe_gint T.i_MOST_THINGS) (by rfl)) (pw_or1 (pt_cmpR op_eq (pe_callB call_lenDn (by rfl) T.b_len (by decide +kernel) (pa_cons (pe_fld (pe_dget hu (pe_fld (pv 0) rfl) (pv 4) (fun _ _ => rfl)) rfl) pa_nil)) (pe_gint T.i_MOST_ENTRIES) (by rfl))))) (pss_one (ps_raiseW rfl tk T.e_TooGreat)) pss_nil)
    (pss_cons (ps_set (i := 6) nd rfl (Or.inl rfl) (pe_callW G_copied (hr.mono (by decide)) T.g_copied k_copied b_copied tk (pa_cons (pe_fld (pv 0) rfl) pa_nil)))
    (pss_cons (ps_dput hu (pv 6) (pv 5) (pe_makeW T.k_Thing G_Thing___init__ (hr.mono (by decide)) T.g_Thing b_Thing___init__ tk (pa_cons (pv 2) (pa_cons (pe_lst pa_nil) (pa_cons pe_dnewK pa_nil)))) rfl)
    (pss_cons (ps_dput hu (pe_fld (pe_dget hu (pv 6) (pv 4) (fun _ _ => rfl)) rfl) (pe_ix ix_list (pv 3) (pe_un un_negn pe_int) (fun _ _ => rfl)) (pv 5) rfl)
    (pss_cons (ps_expr (pe_methW (pv 0) T.x_Files.c T.m_Files_become G_Files_become (hr.mono (by decide)) b_Files_become tk (pa_cons (pv 6) (pa_cons (pe_fld (pv 0) rfl) pa_nil))))
    (pss_one (ps_ret (pv 5)))))))))))) rfl, pure_Files_make T.x_Thing T.x_Files h⟩
theorem ok_formatted {P : Program} {w : World} {K : PySem.W.Frag} {mg : Str → Option Value} {base : Heap} (T : Tx K mg) (c_fresh : Ct_fresh P w K mg base) (c_Files___init__ : Ct_Files___init__ P w K mg base) (c_image : Ct_image P w K mg base) (c_write_chain : Ct_write_chain P w K mg base) (c_write_root : Ct_write_root P w K mg base) (c_padded : Ct_padded P w K mg base) (c_Disk_write : Ct_Disk_write P w K mg base) (c_Disk_barrier : Ct_Disk_barrier P w K mg base) : Ct_formatted P w K mg base := by
  obtain ⟨fd, F⟩ := T.d_formatted
  obtain ⟨_, G_fresh, b_fresh, k_fresh⟩ := c_fresh
  obtain ⟨_, G_Files___init__, b_Files___init__, k_Files___init__⟩ := c_Files___init__
  obtain ⟨_, G_image, b_image, k_image⟩ := c_image
  obtain ⟨_, G_write_chain, b_write_chain, k_write_chain⟩ := c_write_chain
  obtain ⟨_, G_write_root, b_write_root, k_write_root⟩ := c_write_root
  obtain ⟨_, G_padded, b_padded, k_padded⟩ := c_padded
  obtain ⟨_, G_Disk_write, b_Disk_write, k_Disk_write⟩ := c_Disk_write
  obtain ⟨_, G_Disk_barrier, b_Disk_barrier, k_Disk_barrier⟩ := c_Disk_barrier
  refine ⟨fd, FunD.ok F sc_formatted (fun vs H Q E h => len_formatted h) (fun cdv A outer s H vs Q E hr h => ?_), FunD.bindsN F fun _ _ _ _ _ _ us hl => match us, hl with | [_], _ => rfl, F.kp⟩
  have nd := sc_formatted.nd
  have hu := hu_of hr
  have tk : Takes (cxOf (L2.CX P w) P w K mg base N_formatted "formatted" (defScope s_formatted) (He.ga K "formatted") cdv A outer s H E) (WE1 E) := takes_of rfl rfl rfl rfl
  exact ⟨t_formatted K (WE1 E), asSs (pss_cons (ps_set (i := 1) nd rfl (Or.inl rfl) (pe_makeW T.k_Files G_Files___init__ (hr.mono (by decide)) T.g_Files b_Files___init__ tk (pa_cons (pv 0) (pa_cons (pe_callW0 G_fresh (hr.mono (by decide)) T.g_fresh k_fresh b_fresh tk) (pa_cons pe_dnewK pa_nil)))))
    (pss_cons (ps_set (i := 2) nd rfl (Or.inl rfl) (pe_callW G_image (hr.mono (by decide)) T.g_image k_image b_image tk (pa_cons (pe_fld (pv 1) rfl) (pa_cons (pe_fld (pv 1) rfl) pa_nil))))
    (pss_cons (ps_expr (pe_callW G_write_chain (hr.mono (by decide)) T.g_write_chain k_write_chain b_write_chain tk (pa_cons (pv 0) (pa_cons (pv 2) (pa_cons (pe_lst (pa_cons (pe_gint T.i_FIRST) pa_nil)) pa_nil)))))
    (pss_cons (ps_expr (pe_callW G_write_root (hr.mono (by decide)) T.g_write_root k_write_root b_write_root tk (pa_cons (pv 0) (pa_cons pe_int (pa_cons pe_int (pa_cons (pe_gint T.i_FIRST) pa_nil))))))
    (pss_cons (ps_expr (pe_methW (pv 0) T.x_Disk.c T.m_Disk_write G_Disk_write (hr.mono (by decide)) b_Disk_write tk (pa_cons pe_int (pa_cons (pe_callW G_padded (hr.mono (by decide)) T.g_padded k_padded b_padded tk (pa_cons (pe_lst pa_nil) pa_nil)) pa_nil))))
    (pss_cons (ps_expr (pe_methW0 (pv 0) T.x_Disk.c T.m_Disk_barrier G_Disk_barrier (hr.mono (by decide)) b_Disk_barrier tk))
    (pss_cons (ps_fld (pv 1) (pe_lst (pa_cons (pe_gint T.i_FIRST) pa_nil)) rfl)
    (pss_one (ps_ret (pv 1)))))))))) rfl, pure_formatted T.x_Files h⟩
theorem ok__law_cell {P : Program} {w : World} {K : PySem.W.Frag} {mg : Str → Option Value} {base : Heap} (T : Tx K mg) : Ct__law_cell P w K mg base := by
  obtain ⟨fd, F⟩ := T.d__law_cell
  refine ⟨fd, FunD.ok F sc__law_cell (fun vs H Q E h => len__law_cell h) (fun cdv A outer s H vs Q E hr h => ?_), FunD.bindsN F fun _ _ _ _ _ _ us hl => match us, hl with | [_, _], _ => rfl, F.kp⟩
  have nd := sc__law_cell.nd
  have hu := hu_of hr
  have tk : Takes (cxOf (L2.CX P w) P w K mg base N__law_cell "_law_cell" (defScope s__law_cell) (He.ga K "_law_cell") cdv A outer s H E) (WE1 E) := takes_of rfl rfl rfl rfl
  exact ⟨t__law_cell K (WE1 E), asSs (pss_cons (ps_if (pt_cmpR (op_eqD (Room.units hr)) (pv 0) (pe_lst pa_nil) (by rfl)) (pss_one (ps_ret (pe_op op_mul (pv 1) pe_int))) pss_nil)
    (pss_one (ps_ret (pe_op op_add (pe_ix ix_list (pv 0) (pe_op op_mod (pv 1) (pe_callB call_lenQn (by rfl) T.b_len (by decide +kernel) (pa_cons (pv 0) pa_nil))) (fun _ _ => rfl)) (pe_op op_mul (pe_op op_fdiv (pv 1) (pe_callB call_lenQn (by rfl) T.b_len (by decide +kernel) (pa_cons (pv 0) pa_nil))) pe_int))))) rfl, pure__law_cell h⟩
theorem ok__law_drawn {P : Program} {w : World} {K : PySem.W.Frag} {mg : Str → Option Value} {base : Heap} (T : Tx K mg) : Ct__law_drawn P w K mg base := by
  obtain ⟨fd, F⟩ := T.d__law_drawn
  refine ⟨fd, FunD.ok F sc__law_drawn (fun vs H Q E h => len__law_drawn h) (fun cdv A outer s H vs Q E hr h => ?_), FunD.bindsN F fun _ _ _ _ _ _ us hl => match us, hl with | [_, _], _ => rfl, F.kp⟩
  have nd := sc__law_drawn.nd
  have hu := hu_of hr
  have tk : Takes (cxOf (L2.CX P w) P w K mg base N__law_drawn "_law_drawn" (defScope s__law_drawn) (He.ga K "_law_drawn") cdv A outer s H E) (WE1 E) := takes_of rfl rfl rfl rfl
  exact ⟨t__law_drawn K (WE1 E), asSs (pss_cons (ps_set (i := 2) nd rfl (Or.inl rfl) (pe_op op_mod (pe_op op_add (pe_op op_mul (pv 0) pe_int) (pe_op op_mul (pe_op op_add (pv 1) pe_int) pe_int)) pe_int))
    (pss_one (ps_ret (pe_op op_mod (pe_op op_mulW (pv 2) (pv 2)) pe_int)))) rfl, pure__law_drawn h⟩
theorem ok__law_word {P : Program} {w : World} {K : PySem.W.Frag} {mg : Str → Option Value} {base : Heap} (T : Tx K mg) : Ct__law_word P w K mg base := by
  obtain ⟨fd, F⟩ := T.d__law_word
  refine ⟨fd, fn_ofP F sc__law_word (fun p vs H Q E h => len__law_word h) (fun cdv A outer s H vs Q E p hr h => ?_), FunD.bindsN F fun _ _ _ _ _ _ us hl => match us, hl with | [_], _ => rfl, F.kp⟩
  have nd := sc__law_word.nd
  obtain ⟨d, hd, rfl, hz, hf, q⟩ := h
  have xc := T.x10.exc d hd
  have hp1 : p ∈ (cxH (L2.CX P w) P w K mg base N__law_word "_law_word" (defScope s__law_word) (He.ga K "_law_word") cdv A outer s H E p).pn := List.mem_cons_self
  refine ⟨_, pss_cons (ps_set (i := 1) nd rfl (Or.inl rfl) (pe_lst (pa_cons (pe_callB (call_isP xc hz hf hp1) (by rfl) T.b_isinstance (by decide +kernel) (pa_cons (pv 0) (pa_cons (pe_gref T.g_NoThing) pa_nil))) (pa_cons (pe_callB (call_isP xc hz hf hp1) (by rfl) T.b_isinstance (by decide +kernel) (pa_cons (pv 0) (pa_cons (pe_gref T.g_NoDirectory) pa_nil))) (pa_cons (pe_callB (call_isP xc hz hf hp1) (by rfl) T.b_isinstance (by decide +kernel) (pa_cons (pv 0) (pa_cons (pe_gref T.g_BadName) pa_nil))) (pa_cons (pe_callB (call_isP xc hz hf hp1) (by rfl) T.b_isinstance (by decide +kernel) (pa_cons (pv 0) (pa_cons (pe_gref T.g_IsThere) pa_nil))) pa_nil))))))
    (pss_cons (ps_set (i := 1) nd rfl (Or.inl rfl) (pe_op op_cat (pv 1) (pe_lst (pa_cons (pe_callB (call_isP xc hz hf hp1) (by rfl) T.b_isinstance (by decide +kernel) (pa_cons (pv 0) (pa_cons (pe_gref T.g_NoRoom) pa_nil))) (pa_cons (pe_callB (call_isP xc hz hf hp1) (by rfl) T.b_isinstance (by decide +kernel) (pa_cons (pv 0) (pa_cons (pe_gref T.g_NotEmpty) pa_nil))) (pa_cons (pe_callB (call_isP xc hz hf hp1) (by rfl) T.b_isinstance (by decide +kernel) (pa_cons (pv 0) (pa_cons (pe_gref T.g_WrongKind) pa_nil))) pa_nil))))))
    (pss_cons (ps_set (i := 1) nd rfl (Or.inl rfl) (pe_op op_cat (pv 1) (pe_lst (pa_cons (pe_callB (call_isP xc hz hf hp1) (by rfl) T.b_isinstance (by decide +kernel) (pa_cons (pv 0) (pa_cons (pe_gref T.g_TooGreat) pa_nil))) (pa_cons (pe_callB (call_isP xc hz hf hp1) (by rfl) T.b_isinstance (by decide +kernel) (pa_cons (pv 0) (pa_cons (pe_gref T.g_ReadOnly) pa_nil))) (pa_cons (pe_callB (call_isP xc hz hf hp1) (by rfl) T.b_isinstance (by decide +kernel) (pa_cons (pv 0) (pa_cons (pe_gref T.g_NoFiles) pa_nil))) pa_nil))))))
    (pss_cons (ps_set (i := 2) nd rfl (Or.inl rfl) (pe_lst (pa_cons pe_str (pa_cons pe_str (pa_cons pe_str (pa_cons pe_str (pa_cons pe_str (pa_cons pe_str (pa_cons pe_str (pa_cons pe_str (pa_cons pe_str pa_nil)))))))))))
    (pss_cons (ps_if (PW.pt (pw_or (pt_cmpR op_ne (pe_bm PySem.F.plainAttrs_list PySem.F.slot_list_count PySem.F.type_list_count mt_countF (pv 1) (pa_cons pe_bl pa_nil)) pe_int (by rfl)) (pw_or (pt_not (pt_val (pe_callB (call_isP xc hz hf hp1) (by rfl) T.b_isinstance (by decide +kernel) (pa_cons (pv 0) (pa_cons (pe_gref T.g_StillError) pa_nil))))) (pw_or1 (pt_not (pt_val (pe_callB (call_isP xc hz hf hp1) (by rfl) T.b_isinstance (by decide +kernel) (pa_cons (pv 0) (pa_cons (pe_bltn (v := .ty "ValueError") (u := .type "ValueError") (by rfl) T.b_ValueError (by decide +kernel) rfl) pa_nil))))))))) (pss_one (ps_ret pe_str)) pss_nil)
    (pss_one (ps_ret (pe_ix ix_list (pe_op op_cat (pv 2) (pe_lst (pa_cons pe_str pa_nil))) (pe_bm PySem.F.plainAttrs_list PySem.F.slot_list_index PySem.F.type_list_index mt_index (pv 1) (pa_cons pe_bl pa_nil)) (fun _ _ => rfl)))))))), ?_⟩
  exact pure__law_word (E := E) T.x10 hd q
theorem ok__law_is_name {P : Program} {w : World} {K : PySem.W.Frag} {mg : Str → Option Value} {base : Heap} (T : Tx K mg) : Ct__law_is_name P w K mg base := by
  obtain ⟨fd, F⟩ := T.d__law_is_name
  refine ⟨fd, FunD.ok F sc__law_is_name (fun vs H Q E h => len__law_is_name h) (fun cdv A outer s H vs Q E hr h => ?_), FunD.bindsN F fun _ _ _ _ _ _ us hl => match us, hl with | [_], _ => rfl, F.kp⟩
  have nd := sc__law_is_name.nd
  have hu := hu_of hr
  have tk : Takes (cxOf (L2.CX P w) P w K mg base N__law_is_name "_law_is_name" (defScope s__law_is_name) (He.ga K "_law_is_name") cdv A outer s H E) (WE1 E) := takes_of rfl rfl rfl rfl
  exact ⟨t__law_is_name K (WE1 E), asSs (pss_cons (ps_if (PW.pt (pw_or (pt_cmpR op_lt (pe_callB call_lenSn (by rfl) T.b_len (by decide +kernel) (pa_cons (pv 0) pa_nil)) pe_int (by rfl)) (pw_or (pt_cmpR op_gt (pe_callB call_lenSn (by rfl) T.b_len (by decide +kernel) (pa_cons (pv 0) pa_nil)) pe_int (by rfl)) (pw_or1 (pt_cmpR op_in_seq (pv 0) (pe_lst (pa_cons pe_str (pa_cons pe_str pa_nil))) (by rfl)))))) (pss_one (ps_ret pe_bl)) pss_nil)
    (pss_one (ps_ret (pe_callB (cr_all rfl) (by rfl) T.b_all (by decide +kernel) (pa_cons (pe_lc (own := [("_law_sign", 1)]) (g := gName 1) (tt := tYes) (te := uOrV (uAndV (uBM0 K "str" rAlnum (tVar 1)) (uOp rLtI (uCB cOrd (uCons (tVar 1) uNil)) (uC (.int 128)))) (uOp rInS (tVar 1) (uC (.str "._-")))) rfl nd (pi_str (pv 0)) (blkOk_by (N := N__law_is_name) (sc := defScope s__law_is_name) (by decide +kernel)) (fun _ _ _ _ _ => pg_name (i := 1) nd rfl (Or.inl rfl)) (fun _ _ _ _ _ => pts_nil) (fun _ _ _ _ _ => asE (pe_or (pe_and (pe_bm0 PySem.F.plainAttrs_str PySem.F.slot_str_isalnum PySem.F.type_str_isalnum mt_isalnumN (pv 1)) (pe_one (pe_cmpR op_lt (pe_callB call_ordn (by rfl) T.b_ord (by decide +kernel) (pa_cons (pv 1) pa_nil)) pe_int (by rfl)))) (pe_one (pe_cmpR op_inSn (pv 1) pe_str (by rfl)))) rfl)) pa_nil))))) rfl, pure__law_is_name h⟩
theorem ok__law_tree {P : Program} {w : World} {K : PySem.W.Frag} {mg : Str → Option Value} {base : Heap} (T : Tx K mg) : Ct__law_tree P w K mg base := by
  obtain ⟨fd, F⟩ := T.d__law_tree
  refine ⟨fd, FunD.ok F sc__law_tree (fun vs H Q E h => len__law_tree h) (fun cdv A outer s H vs Q E hr h => ?_), FunD.bindsN F fun _ _ _ _ _ _ us hl => match us, hl with | [], _ => rfl, F.kp⟩
  have nd := sc__law_tree.nd
  have hu := hu_of hr
  have tk : Takes (cxOf (L2.CX P w) P w K mg base N__law_tree "_law_tree" (defScope s__law_tree) (He.ga K "_law_tree") cdv A outer s H E) (WE1 E) := takes_of rfl rfl rfl rfl
  exact ⟨t__law_tree K (WE1 E), asSs (pss_one (ps_ret (pe_disp (pps_cons pe_int (pe_disp (pps_cons pe_str pe_int (pps_cons pe_str pe_int (pps_cons pe_str pe_int pps_nil))) (by rfl) (by rfl) (fun z => by cases z) (by decide)) (pps_cons pe_int (pe_disp (pps_cons pe_str pe_int (pps_cons pe_str pe_int (pps_cons pe_str pe_int pps_nil))) (by rfl) (by rfl) (fun z => by cases z) (by decide)) (pps_cons pe_int (pe_disp (pps_cons pe_str pe_int pps_nil) (by rfl) (by rfl) (fun z => by cases z) (by decide)) (pps_cons pe_int pe_dnewK pps_nil)))) (by rfl) (by rfl) (fun z => by cases z) (by decide)))) rfl, pure__law_tree h⟩
theorem ok__law_due {P : Program} {w : World} {K : PySem.W.Frag} {mg : Str → Option Value} {base : Heap} (T : Tx K mg) (c__law_is_name : Ct__law_is_name P w K mg base) (c__law_tree : Ct__law_tree P w K mg base) : Ct__law_due P w K mg base := by
  obtain ⟨fd, F⟩ := T.d__law_due
  obtain ⟨_, G__law_is_name, b__law_is_name, k__law_is_name⟩ := c__law_is_name
  obtain ⟨_, G__law_tree, b__law_tree, k__law_tree⟩ := c__law_tree
  refine ⟨fd, FunD.ok F sc__law_due (fun vs H Q E h => len__law_due h) (fun cdv A outer s H vs Q E hr h => ?_), FunD.bindsN F fun _ _ _ _ _ _ us hl => match us, hl with | [_], _ => rfl, F.kp⟩
  have nd := sc__law_due.nd
  have hu := hu_of hr
  have tk : Takes (cxOf (L2.CX P w) P w K mg base N__law_due "_law_due" (defScope s__law_due) (He.ga K "_law_due") cdv A outer s H E) (WE1 E) := takes_of rfl rfl rfl rfl
  exact ⟨t__law_due K (WE1 E), asSs (pss_cons (ps_if (pt_cmpR op_eq (pv 0) pe_str (by rfl)) (pss_one (ps_ret pe_int)) pss_nil)
    (pss_cons (ps_set (i := 1) nd rfl (Or.inl rfl) (pe_split (pv 0) pe_str))
    (pss_cons (ps_if (PW.pt (pw_or (pt_cmpR op_gt (pe_callB call_lenSn (by rfl) T.b_len (by decide +kernel) (pa_cons (pv 0) pa_nil)) pe_int (by rfl)) (pw_or (pt_cmpR op_lt (pe_callB call_lenQn (by rfl) T.b_len (by decide +kernel) (pa_cons (pv 1) pa_nil)) pe_int (by rfl)) (pw_or (pt_cmpR op_ne (pe_ix ix_list (pv 1) pe_int (fun _ _ => rfl)) pe_str (by rfl)) (pw_or1 (pt_not (pt_val (pe_callB (cr_all rfl) (by rfl) T.b_all (by decide +kernel) (pa_cons (pe_lc (own := [("_law_one", 5)]) (g := gName 5) (tt := tYes) (te := uCallW (sp__law_is_name K) W0 (uCons (tVar 5) uNil)) rfl nd (pi_list (pe_slice sl_list (pv 1) (po_some pe_int) po_none)) (blkOk_by (N := N__law_due) (sc := defScope s__law_due) (by decide +kernel)) (fun _ _ _ _ _ => pg_name (i := 5) nd rfl (Or.inl rfl)) (fun _ _ _ _ _ => pts_nil) (fun _ _ _ _ _ => asE (pe_callW G__law_is_name (hr.mono (by decide)) T.g__law_is_name k__law_is_name b__law_is_name takes0 (pa_cons (pv 5) pa_nil)) rfl)) pa_nil))))))))) (pss_one (ps_ret pe_str)) pss_nil)
    (pss_cons (ps_set (i := 2) nd rfl (Or.inl rfl) pe_int)
    (pss_cons (ps_for (passes_of rfl) rfl (pi_list (pe_slice sl_list (pv 1) (po_some pe_int) po_none)) (pg_name (i := 3) nd rfl (Or.inl rfl)) (pss_cons (ps_set (i := 4) nd rfl (Or.inl rfl) (pe_dget1 hu (pe_callW0 G__law_tree (hr.mono (by decide)) T.g__law_tree k__law_tree b__law_tree tk) (pv 2) ⟨rfl, rfl, rfl, rfl⟩))
    (pss_cons (ps_if (pt_cmpR op_isNn (pv 4) pe_non (by rfl)) (pss_one (ps_ret pe_str)) pss_nil)
    (pss_cons (ps_if (pt_cmp (pc_dnotin hu (pv 3) (pv 4)) (by rfl)) (pss_one (ps_ret pe_str)) pss_nil)
    (pss_one (ps_set (i := 2) nd rfl (Or.inl rfl) (pe_dget hu (pv 4) (pv 3) (fun _ _ => rfl))))))))
    (pss_one (ps_ret (pv 2)))))))) rfl, pure__law_due h⟩
theorem ok__law_told {P : Program} {w : World} {K : PySem.W.Frag} {mg : Str → Option Value} {base : Heap} (T : Tx K mg) (c_Files_find : Ct_Files_find P w K mg base) (c__law_word : Ct__law_word P w K mg base) : Ct__law_told P w K mg base := by
  obtain ⟨fd, F⟩ := T.d__law_told
  obtain ⟨_, G_Files_find, b_Files_find, k_Files_find⟩ := c_Files_find
  obtain ⟨_, G__law_word, b__law_word, k__law_word⟩ := c__law_word
  refine ⟨fd, FunD.ok F sc__law_told (fun vs H Q E h => len__law_told h) (fun cdv A outer s H vs Q E hr h => ?_), FunD.bindsN F fun _ _ _ _ _ _ us hl => match us, hl with | [_, _], _ => rfl, F.kp⟩
  have nd := sc__law_told.nd
  have hu := hu_of hr
  have tk : Takes (cxOf (L2.CX P w) P w K mg base N__law_told "_law_told" (defScope s__law_told) (He.ga K "_law_told") cdv A outer s H E) (WE1 E) := takes_of rfl rfl rfl rfl
  exact ⟨t__law_told K E (WE1 E), asSs (pss_one (ps_try_as (i := 2) (tb := fun W1 => uRet (uMethW (He.ga K "Files") "find" (sp_Files_find K) W1 (tVar 0) (uCons (tVar 1) uNil))) (ts := fun a cls d => uRet (uWordS K a cls d (uCons (tVar 2) uNil))) (Wout := (WE1 E)) rfl rfl nd rfl rfl ⟨rfl, by decide, .inl T.g_StillError⟩ tk (fun W1 pn1 xe1 tk1 hp1 => asSs (pss_one (ps_ret (pe_methW (pv 0) T.x_Files.c T.m_Files_find G_Files_find (hr.mono (by decide)) b_Files_find tk1 (pa_cons (pv 1) pa_nil)))) rfl) (fun a oe cls d pn hz hf => asSs (pss_one (ps_ret (pe_wordS G__law_word (roomP (hr.mono (by decide)) _) List.mem_cons_self hz hf T.g__law_word k__law_word b__law_word (pa_cons (pv 2) pa_nil)))) rfl))) rfl, pure__law_told T.x10 h⟩
theorem ok__law_path {P : Program} {w : World} {K : PySem.W.Frag} {mg : Str → Option Value} {base : Heap} (T : Tx K mg) : Ct__law_path P w K mg base := by
  obtain ⟨fd, F⟩ := T.d__law_path
  refine ⟨fd, FunD.ok F sc__law_path (fun vs H Q E h => len__law_path h) (fun cdv A outer s H vs Q E hr h => ?_), FunD.bindsN F fun _ _ _ _ _ _ us hl => match us, hl with | [_, _], _ => rfl, F.kp⟩
  have nd := sc__law_path.nd
  have hu := hu_of hr
  have tk : Takes (cxOf (L2.CX P w) P w K mg base N__law_path "_law_path" (defScope s__law_path) (He.ga K "_law_path") cdv A outer s H E) (WE1 E) := takes_of rfl rfl rfl rfl
  exact ⟨t__law_path K (WE1 E), asSs (pss_cons (ps_set (i := 2) nd rfl (Or.inl rfl) (pe_lst (pa_cons pe_str (pa_cons pe_str (pa_cons pe_str (pa_cons pe_str (pa_cons pe_str (pa_cons pe_str (pa_cons pe_str (pa_cons pe_str (pa_cons pe_str (pa_cons pe_str (pa_cons pe_str (pa_cons pe_str (pa_cons pe_str (pa_cons pe_str (pa_cons pe_str pa_nil)))))))))))))))))
    (pss_cons (ps_if (pt_cmpR op_eq (pe_op op_mod (pv 1) pe_int) pe_int (by rfl)) (pss_one (ps_ret (pe_ix ix_list (pe_lst (pa_cons pe_str (pa_cons pe_str (pa_cons pe_str (pa_cons pe_str (pa_cons pe_str (pa_cons pe_str (pa_cons (pe_op op_addS (pe_op op_addS pe_str (pe_op op_mulStr pe_str pe_int)) pe_str) (pa_cons (pe_op op_addS (pe_op op_addS pe_str (pe_op op_mulStr pe_str pe_int)) pe_str) pa_nil))))))))) (pe_op op_mod (pe_op op_fdiv (pv 1) pe_int) pe_int) (fun _ _ => rfl)))) pss_nil)
    (pss_cons (ps_if (pt_cmpR op_eq (pe_op op_mod (pv 1) pe_int) pe_int (by rfl)) (pss_cons (ps_set (i := 5) nd rfl (Or.inr rfl) pe_str)
    (pss_one (ps_ret (pe_op op_addS pe_str (pe_join pe_str (pe_lc (own := [("_law_k", 4)]) (g := gName 4) (tt := tYes) (te := uOp rIxS (tVar 5) (uOp rModI (uOp rDivI (tVar 1) (uOp rAddI (uOp rMulI (tVar 4) (uC (.int 37))) (uC (.int 6)))) (uCB cLenS (uCons (tVar 5) uNil)))) rfl nd (pi_range1 rfl T.b_range (pa_cons (pe_op op_mod (pe_op op_fdiv (pv 1) pe_int) pe_int) pa_nil)) (blkOk_by (N := N__law_path) (sc := defScope s__law_path) (by decide +kernel)) (fun _ _ _ _ _ => pg_name (i := 4) nd rfl (Or.inl rfl)) (fun _ _ _ _ _ => pts_nil) (fun _ _ _ _ _ => asE (pe_ix ix_str (pv 5) (pe_op op_mod (pe_op op_fdiv (pv 1) (pe_op op_add (pe_op op_mul (pv 4) pe_int) pe_int)) (pe_callB call_lenSn (by rfl) T.b_len (by decide +kernel) (pa_cons (pv 5) pa_nil))) (fun _ _ => rfl)) rfl))))))) pss_nil)
    (pss_cons (ps_set (i := 3) nd rfl (Or.inl rfl) pe_str)
    (pss_cons (ps_for (passes_of rfl) rfl (pi_range1 rfl T.b_range (pa_cons (pe_op op_add pe_int (pe_op op_mod (pe_op op_fdiv (pv 1) pe_int) pe_int)) pa_nil)) (pg_name (i := 4) nd rfl (Or.inl rfl)) (pss_one (ps_set (i := 3) nd rfl (Or.inl rfl) (pe_op op_addS (pe_op op_addS (pv 3) pe_str) (pe_ix ix_list (pv 2) (pe_op op_mod (pe_op op_fdiv (pv 1) (pe_op op_mul pe_int (pe_op op_add (pe_op op_mul (pv 4) (pv 4)) pe_int))) (pe_ix ix_list (pe_lst (pa_cons pe_int (pa_cons pe_int (pa_cons pe_int pa_nil)))) (pe_op op_mod (pe_op op_fdiv (pv 1) pe_int) pe_int) (fun _ _ => rfl))) (fun _ _ => rfl))))))
    (pss_one (ps_ret (pv 3)))))))) rfl, pure__law_path h⟩
theorem okf_law {P : Program} {w : World} {K : PySem.W.Frag} {mg : Str → Option Value} {base : Heap} (T : Tx K mg) (c_Disk___init__ : Ct_Disk___init__ P w K mg base) (c_formatted : Ct_formatted P w K mg base) (c_Files_make : Ct_Files_make P w K mg base) (c__law_cell : Ct__law_cell P w K mg base) (c__law_drawn : Ct__law_drawn P w K mg base) (c__law_path : Ct__law_path P w K mg base) (c__law_told : Ct__law_told P w K mg base) (c__law_due : Ct__law_due P w K mg base) {fd : FuncData} (F : FunD K "law" "law" (defArgs s_law) (defBody s_law) (defScope s_law) [] [] (He.ga K "law") fd) : FnOk P w K mg base (L2.CX P w) 7 (He.ga K "law") fd ["_law_script"] (sp_law K) := by
  obtain ⟨_, G_Disk___init__, b_Disk___init__, k_Disk___init__⟩ := c_Disk___init__
  obtain ⟨_, G_formatted, b_formatted, k_formatted⟩ := c_formatted
  obtain ⟨_, G_Files_make, b_Files_make, k_Files_make⟩ := c_Files_make
  obtain ⟨_, G__law_cell, b__law_cell, k__law_cell⟩ := c__law_cell
  obtain ⟨_, G__law_drawn, b__law_drawn, k__law_drawn⟩ := c__law_drawn
  obtain ⟨_, G__law_path, b__law_path, k__law_path⟩ := c__law_path
  obtain ⟨_, G__law_told, b__law_told, k__law_told⟩ := c__law_told
  obtain ⟨_, G__law_due, b__law_due, k__law_due⟩ := c__law_due
  refine FunD.ok F sc_law (fun vs H Q E h => len_law h) (fun cdv A outer s H vs Q E hr h => ?_)
  have nd := sc_law.nd
  have hu := hu_of hr
  have tk : Takes (cxOf (L2.CX P w) P w K mg base N_law "law" (defScope s_law) (He.ga K "law") cdv A outer s H E) (WE1 E) := takes_of rfl rfl rfl rfl
  exact ⟨t_law K (WE1 E), asSs (pss_cons (ps_set (i := 1) nd rfl (Or.inl rfl) (pe_callW G_formatted (hr.mono (by decide)) T.g_formatted k_formatted b_formatted tk (pa_cons (pe_makeW T.k_Disk G_Disk___init__ (hr.mono (by decide)) T.g_Disk b_Disk___init__ tk (pa_cons pe_int pa_nil)) pa_nil)))
    (pss_cons (ps_if (pt_not (pt_val (pe_callB (call_isCn T.is_Files) (by rfl) T.b_isinstance (by decide +kernel) (pa_cons (pv 1) (pa_cons (pe_gref T.g_Files) pa_nil))))) (pss_one (ps_ret pe_bl)) pss_nil)
    (pss_cons (ps_for (passes_of rfl) rfl (pi_list (pe_lst (pa_cons (pe_tup (pa_cons pe_str (pa_cons pe_str pa_nil))) (pa_cons (pe_tup (pa_cons pe_str (pa_cons pe_str pa_nil))) (pa_cons (pe_tup (pa_cons pe_str (pa_cons pe_str pa_nil))) (pa_cons (pe_tup (pa_cons pe_str (pa_cons pe_str pa_nil))) (pa_cons (pe_tup (pa_cons pe_str (pa_cons pe_str pa_nil))) pa_nil))))))) (pg_tup rfl (pgs_cons (pg_name (i := 3) nd rfl (Or.inl rfl)) (pgs_cons (pg_name (i := 4) nd rfl (Or.inl rfl)) pgs_nil))) (pss_one (ps_expr (pe_methW (pv 1) T.x_Files.c T.m_Files_make G_Files_make (hr.mono (by decide)) b_Files_make tk (pa_cons (pv 3) (pa_cons (pv 4) pa_nil))))))
    (pss_cons (ps_expr (pe_methW (pv 1) T.x_Files.c T.m_Files_make G_Files_make (hr.mono (by decide)) b_Files_make tk (pa_cons pe_str (pa_cons pe_str pa_nil))))
    (pss_cons (ps_expr (pe_methW (pv 1) T.x_Files.c T.m_Files_make G_Files_make (hr.mono (by decide)) b_Files_make tk (pa_cons pe_str (pa_cons pe_str pa_nil))))
    (pss_cons (ps_for (passes_of rfl) rfl (pi_range1 rfl T.b_range (pa_cons (pe_callB (call_max2n rfl) (by rfl) T.b_max (by decide +kernel) (pa_cons pe_int (pa_cons (pe_callB (call_min2n rfl) (by rfl) T.b_min (by decide +kernel) (pa_cons pe_int (pa_cons (pe_callB call_lenQn (by rfl) T.b_len (by decide +kernel) (pa_cons (pv 0) pa_nil)) pa_nil))) pa_nil))) pa_nil)) (pg_name (i := 2) nd rfl (Or.inl rfl)) (pss_cons (ps_set (i := 5) nd rfl (Or.inl rfl) (pe_callW G__law_cell (hr.mono (by decide)) T.g__law_cell k__law_cell b__law_cell tk (pa_cons (pv 0) (pa_cons (pv 2) pa_nil))))
    (pss_cons (ps_set (i := 3) nd rfl (Or.inl rfl) (pe_callW G__law_path (hr.mono (by decide)) T.g__law_path k__law_path b__law_path tk (pa_cons (pv 5) (pa_cons (pe_callW G__law_drawn (hr.mono (by decide)) T.g__law_drawn k__law_drawn b__law_drawn tk (pa_cons (pv 5) (pa_cons (pv 2) pa_nil))) pa_nil))))
    (pss_one (ps_if (pt_cmpR (op_neD (Room.units hr)) (pe_callW G__law_told (hr.mono (by decide)) T.g__law_told k__law_told b__law_told tk (pa_cons (pv 1) (pa_cons (pv 3) pa_nil))) (pe_callW G__law_due (hr.mono (by decide)) T.g__law_due k__law_due b__law_due tk (pa_cons (pv 3) pa_nil)) (by rfl)) (pss_one (ps_ret pe_bl)) pss_nil)))))
    (pss_one (ps_ret pe_bl)))))))) rfl, pure_law h⟩
end SP
set_option Elab.async false
set_option linter.all false
set_option maxRecDepth 100000
set_option maxHeartbeats 0
namespace SP
open PySem PySem.Spec PyProof.Rows L2 L2H
def d_Disk___init__ : He.DefD := ⟨("Disk", some "__init__"), "__init__", "Disk.__init__", defArgs s_Disk___init__, defBody s_Disk___init__, defScope s_Disk___init__, [], []⟩
def d_Disk_write : He.DefD := ⟨("Disk", some "write"), "write", "Disk.write", defArgs s_Disk_write, defBody s_Disk_write, defScope s_Disk_write, [], []⟩
def d_Disk_barrier : He.DefD := ⟨("Disk", some "barrier"), "barrier", "Disk.barrier", defArgs s_Disk_barrier, defBody s_Disk_barrier, defScope s_Disk_barrier, [], []⟩
def d_many_blocks : He.DefD := ⟨("many_blocks", none), "many_blocks", "many_blocks", defArgs s_many_blocks, defBody s_many_blocks, defScope s_many_blocks, [], []⟩
def d_padded : He.DefD := ⟨("padded", none), "padded", "padded", defArgs s_padded, defBody s_padded, defScope s_padded, [], []⟩
def d_write_chain : He.DefD := ⟨("write_chain", none), "write_chain", "write_chain", defArgs s_write_chain, defBody s_write_chain, defScope s_write_chain, [], []⟩
def d_write_root : He.DefD := ⟨("write_root", none), "write_root", "write_root", defArgs s_write_root, defBody s_write_root, defScope s_write_root, [], []⟩
def d_is_name : He.DefD := ⟨("is_name", none), "is_name", "is_name", defArgs s_is_name, defBody s_is_name, defScope s_is_name, [], []⟩
def d_need_name : He.DefD := ⟨("need_name", none), "need_name", "need_name", defArgs s_need_name, defBody s_need_name, defScope s_need_name, [], []⟩
def d_parts : He.DefD := ⟨("parts", none), "parts", "parts", defArgs s_parts, defBody s_parts, defScope s_parts, [], []⟩
def d_Thing___init__ : He.DefD := ⟨("Thing", some "__init__"), "__init__", "Thing.__init__", defArgs s_Thing___init__, defBody s_Thing___init__, defScope s_Thing___init__, [], []⟩
def d_fresh : He.DefD := ⟨("fresh", none), "fresh", "fresh", defArgs s_fresh, defBody s_fresh, defScope s_fresh, [], []⟩
def d_copied : He.DefD := ⟨("copied", none), "copied", "copied", defArgs s_copied, defBody s_copied, defScope s_copied, [], []⟩
def d_least_free : He.DefD := ⟨("least_free", none), "least_free", "least_free", defArgs s_least_free, defBody s_least_free, defScope s_least_free, [], []⟩
def d_entry_of : He.DefD := ⟨("entry_of", none), "entry_of", "entry_of", defArgs s_entry_of, defBody s_entry_of, defScope s_entry_of, [], []⟩
def d_walked : He.DefD := ⟨("walked", none), "walked", "walked", defArgs s_walked, defBody s_walked, defScope s_walked, [], []⟩
def d_place_of : He.DefD := ⟨("place_of", none), "place_of", "place_of", defArgs s_place_of, defBody s_place_of, defScope s_place_of, [], []⟩
def d_text_bytes : He.DefD := ⟨("text_bytes", none), "text_bytes", "text_bytes", defArgs s_text_bytes, defBody s_text_bytes, defScope s_text_bytes, [], []⟩
def d_thing_bytes : He.DefD := ⟨("thing_bytes", none), "thing_bytes", "thing_bytes", defArgs s_thing_bytes, defBody s_thing_bytes, defScope s_thing_bytes, [], []⟩
def d_state_bytes : He.DefD := ⟨("state_bytes", none), "state_bytes", "state_bytes", defArgs s_state_bytes, defBody s_state_bytes, defScope s_state_bytes, [], []⟩
def d_image : He.DefD := ⟨("image", none), "image", "image", defArgs s_image, defBody s_image, defScope s_image, [], []⟩
def d_Files___init__ : He.DefD := ⟨("Files", some "__init__"), "__init__", "Files.__init__", defArgs s_Files___init__, defBody s_Files___init__, defScope s_Files___init__, [], []⟩
def d_Files_may_write : He.DefD := ⟨("Files", some "may_write"), "may_write", "Files.may_write", defArgs s_Files_may_write, defBody s_Files_may_write, defScope s_Files_may_write, [], []⟩
def d_Files_become : He.DefD := ⟨("Files", some "become"), "become", "Files.become", defArgs s_Files_become, defBody s_Files_become, defScope s_Files_become, [], []⟩
def d_Files_find : He.DefD := ⟨("Files", some "find"), "find", "Files.find", defArgs s_Files_find, defBody s_Files_find, defScope s_Files_find, [], []⟩
def d_Files_place_for : He.DefD := ⟨("Files", some "place_for"), "place_for", "Files.place_for", defArgs s_Files_place_for, defBody s_Files_place_for, defScope s_Files_place_for, [], []⟩
def d_Files_make : He.DefD := ⟨("Files", some "make"), "make", "Files.make", defArgs s_Files_make, defBody s_Files_make, defScope s_Files_make, [], []⟩
def d_formatted : He.DefD := ⟨("formatted", none), "formatted", "formatted", defArgs s_formatted, defBody s_formatted, defScope s_formatted, [], []⟩
def d__law_cell : He.DefD := ⟨("_law_cell", none), "_law_cell", "_law_cell", defArgs s__law_cell, defBody s__law_cell, defScope s__law_cell, [], []⟩
def d__law_drawn : He.DefD := ⟨("_law_drawn", none), "_law_drawn", "_law_drawn", defArgs s__law_drawn, defBody s__law_drawn, defScope s__law_drawn, [], []⟩
def d__law_word : He.DefD := ⟨("_law_word", none), "_law_word", "_law_word", defArgs s__law_word, defBody s__law_word, defScope s__law_word, [], []⟩
def d__law_is_name : He.DefD := ⟨("_law_is_name", none), "_law_is_name", "_law_is_name", defArgs s__law_is_name, defBody s__law_is_name, defScope s__law_is_name, [], []⟩
def d__law_tree : He.DefD := ⟨("_law_tree", none), "_law_tree", "_law_tree", defArgs s__law_tree, defBody s__law_tree, defScope s__law_tree, [], []⟩
def d__law_due : He.DefD := ⟨("_law_due", none), "_law_due", "_law_due", defArgs s__law_due, defBody s__law_due, defScope s__law_due, [], []⟩
def d__law_told : He.DefD := ⟨("_law_told", none), "_law_told", "_law_told", defArgs s__law_told, defBody s__law_told, defScope s__law_told, [], []⟩
def d__law_path : He.DefD := ⟨("_law_path", none), "_law_path", "_law_path", defArgs s__law_path, defBody s__law_path, defScope s__law_path, [], []⟩
def d_law : He.DefD := ⟨("law", none), "law", "law", defArgs s_law, defBody s_law, defScope s_law, [], []⟩
def fa0 : List He.Fa := [.glo "StillError", .exc "StillError", .glo "NoThing", .exc "NoThing", .glo "NoDirectory", .exc "NoDirectory", .glo "BadName", .exc "BadName", .glo "IsThere", .exc "IsThere", .glo "NoRoom", .exc "NoRoom", .glo "NotEmpty", .exc "NotEmpty", .glo "WrongKind", .exc "WrongKind", .glo "TooGreat", .exc "TooGreat", .glo "ReadOnly", .exc "ReadOnly"]
def fa1 : List He.Fa := [.glo "NoFiles", .exc "NoFiles", .glo "Disk", .cls "Disk", .noat "Disk" "blocks", .noat "Disk" "log", .mkr "Disk", .glo "Thing", .cls "Thing", .noat "Thing" "kind", .noat "Thing" "held", .noat "Thing" "entries", .mkr "Thing", .glo "Files", .cls "Files", .noat "Files" "disk", .noat "Files" "state", .noat "Files" "kept", .noat "Files" "slot", .noat "Files" "turn"]
def fa2 : List He.Fa := [.noat "Files" "used", .noat "Files" "is_new", .mkr "Files", .meth "Disk" "write", .meth "Disk" "barrier", .glo "many_blocks", .glo "padded", .glo "write_chain", .glo "write_root", .glo "is_name", .glo "need_name", .glo "parts", .glo "fresh", .glo "copied", .glo "least_free", .glo "entry_of", .glo "walked", .glo "place_of", .glo "text_bytes", .glo "thing_bytes"]
def fa3 : List He.Fa := [.glo "state_bytes", .glo "image", .meth "Files" "may_write", .meth "Files" "become", .meth "Files" "find", .meth "Files" "place_for", .meth "Files" "make", .glo "formatted", .glo "_law_cell", .glo "_law_drawn", .glo "_law_word", .glo "_law_is_name", .glo "_law_tree", .glo "_law_due", .glo "_law_told", .glo "_law_path", .glo "law", .free "len", .free "all", .free "any"]
def ch0 : HQ.Chk := ⟨fa0 ++ fa1 ++ fa2 ++ fa3, [], [], (fun K => (xk K && insB K (He.ga K "Files")))⟩
def fa4 : List He.Fa := [.free "min", .free "max", .free "ord", .free "sorted", .free "list", .free "dict", .free "tuple", .free "int", .free "range", .free "isinstance", .free "ValueError", .int "SIZE" 64, .int "LEAST" 16, .int "MOST" 256, .int "PAYLOAD" 62, .int "MARK" 83, .int "FIRST" 2, .int "MOST_NAME" 8, .int "MOST_PATH" 60, .str "SIGNS" txt_SIGNS]
def fa5 : List He.Fa := [.int "MOST_THINGS" 32, .int "MOST_SIZE" 600, .int "MOST_ENTRIES" 40]
def fn0 : List He.DefD := [d_Disk___init__, d_Disk_write, d_Disk_barrier, d_many_blocks, d_padded, d_write_chain, d_write_root, d_is_name, d_need_name, d_parts, d_Thing___init__, d_fresh, d_copied, d_least_free, d_entry_of, d_walked, d_place_of, d_text_bytes, d_thing_bytes, d_state_bytes]
def fn1 : List He.DefD := [d_image, d_Files___init__, d_Files_may_write, d_Files_become, d_Files_find, d_Files_place_for, d_Files_make, d_formatted, d__law_cell, d__law_drawn, d__law_word, d__law_is_name, d__law_tree, d__law_due, d__law_told, d__law_path, d_law]
def ch1 : HQ.Chk := ⟨fa4 ++ fa5, fn0 ++ fn1, [], fun _ => true⟩
def chs : List HQ.Chk := [ch0, ch1]
def names0 : List PySem.Str := ["_wall", "StillError", "NoThing", "NoDirectory", "BadName", "IsThere", "NoRoom", "NotEmpty", "WrongKind", "TooGreat", "ReadOnly", "NoFiles", "SIZE", "LEAST", "MOST", "Disk", "PAYLOAD", "MARK", "FIRST", "many_blocks", "padded", "write_chain", "write_root", "MOST_NAME", "MOST_PATH", "SIGNS", "is_name", "need_name", "parts", "MOST_THINGS"]
def names1 : List PySem.Str := ["MOST_SIZE", "MOST_ENTRIES", "Thing", "fresh", "copied", "least_free", "entry_of", "walked", "place_of", "text_bytes", "thing_bytes", "state_bytes", "image", "Files", "formatted", "_law_cell", "_law_drawn", "_law_word", "_law_is_name", "_law_tree", "_law_due", "_law_told", "_law_path"]
def names : List PySem.Str := names0 ++ names1
abbrev R : PySem.W.OpenRow := PySem.W.OpenLaw.row PySem.Challenge.rw_stillpoint_k12_paths
theorem run_l : HQ.RunL R 8000 := by
  intro w os
  kernel_rfl
theorem run_s : HQ.RunS R 8000 (PySem.W.view R.prog [61]) names := by
  intro w os
  kernel_rfl
theorem run_0 : HQ.RunC R 8000 ch0 := by
  intro w os
  kernel_rfl
theorem run_1 : HQ.RunC R 8000 ch1 := by
  intro w os
  kernel_rfl
end SP
set_option Elab.async false
set_option linter.all false
set_option maxRecDepth 100000
set_option maxHeartbeats 0
namespace SP
open PySem PySem.Spec PyProof.Rows L2 L2H
theorem tx_of {w : World} {K : PySem.W.Frag} {h : Heap} {mg : Str → Option Value} (X : K.In h) (G : h.Ns mainGlobals mg) (c0 : ch0.says w h K) (c1 : ch1.says w h K) : Tx K mg where
  g_StillError := He.glo_ok X G (c0.t.d.fact 0 (f := .glo "StillError") rfl)
  e_StillError := excx X G (c0.t.d.fact 0 (f := .glo "StillError") rfl) (c0.t.d.fact 1 (f := .exc "StillError") rfl)
  g_NoThing := He.glo_ok X G (c0.t.d.fact 2 (f := .glo "NoThing") rfl)
  e_NoThing := excx X G (c0.t.d.fact 2 (f := .glo "NoThing") rfl) (c0.t.d.fact 3 (f := .exc "NoThing") rfl)
  g_NoDirectory := He.glo_ok X G (c0.t.d.fact 4 (f := .glo "NoDirectory") rfl)
  e_NoDirectory := excx X G (c0.t.d.fact 4 (f := .glo "NoDirectory") rfl) (c0.t.d.fact 5 (f := .exc "NoDirectory") rfl)
  g_BadName := He.glo_ok X G (c0.t.d.fact 6 (f := .glo "BadName") rfl)
  e_BadName := excx X G (c0.t.d.fact 6 (f := .glo "BadName") rfl) (c0.t.d.fact 7 (f := .exc "BadName") rfl)
  g_IsThere := He.glo_ok X G (c0.t.d.fact 8 (f := .glo "IsThere") rfl)
  e_IsThere := excx X G (c0.t.d.fact 8 (f := .glo "IsThere") rfl) (c0.t.d.fact 9 (f := .exc "IsThere") rfl)
  g_NoRoom := He.glo_ok X G (c0.t.d.fact 10 (f := .glo "NoRoom") rfl)
  e_NoRoom := excx X G (c0.t.d.fact 10 (f := .glo "NoRoom") rfl) (c0.t.d.fact 11 (f := .exc "NoRoom") rfl)
  g_NotEmpty := He.glo_ok X G (c0.t.d.fact 12 (f := .glo "NotEmpty") rfl)
  e_NotEmpty := excx X G (c0.t.d.fact 12 (f := .glo "NotEmpty") rfl) (c0.t.d.fact 13 (f := .exc "NotEmpty") rfl)
  g_WrongKind := He.glo_ok X G (c0.t.d.fact 14 (f := .glo "WrongKind") rfl)
  e_WrongKind := excx X G (c0.t.d.fact 14 (f := .glo "WrongKind") rfl) (c0.t.d.fact 15 (f := .exc "WrongKind") rfl)
  g_TooGreat := He.glo_ok X G (c0.t.d.fact 16 (f := .glo "TooGreat") rfl)
  e_TooGreat := excx X G (c0.t.d.fact 16 (f := .glo "TooGreat") rfl) (c0.t.d.fact 17 (f := .exc "TooGreat") rfl)
  g_ReadOnly := He.glo_ok X G (c0.t.d.fact 18 (f := .glo "ReadOnly") rfl)
  e_ReadOnly := excx X G (c0.t.d.fact 18 (f := .glo "ReadOnly") rfl) (c0.t.d.fact 19 (f := .exc "ReadOnly") rfl)
  g_NoFiles := He.glo_ok X G (c0.t.d.fact 20 (f := .glo "NoFiles") rfl)
  e_NoFiles := excx X G (c0.t.d.fact 20 (f := .glo "NoFiles") rfl) (c0.t.d.fact 21 (f := .exc "NoFiles") rfl)
  g_Disk := He.glo_ok X G (c0.t.d.fact 22 (f := .glo "Disk") rfl)
  x_Disk := ⟨He.cls_ok (c0.t.d.fact 23 (f := .cls "Disk") rfl), He.noat_ok (c0.t.d.fact 24 (f := .noat "Disk" "blocks") rfl), He.noat_ok (c0.t.d.fact 25 (f := .noat "Disk" "log") rfl)⟩
  k_Disk := He.mkr_ok (c0.t.d.fact 26 (f := .mkr "Disk") rfl)
  g_Thing := He.glo_ok X G (c0.t.d.fact 27 (f := .glo "Thing") rfl)
  x_Thing := ⟨He.cls_ok (c0.t.d.fact 28 (f := .cls "Thing") rfl), He.noat_ok (c0.t.d.fact 29 (f := .noat "Thing" "kind") rfl), He.noat_ok (c0.t.d.fact 30 (f := .noat "Thing" "held") rfl), He.noat_ok (c0.t.d.fact 31 (f := .noat "Thing" "entries") rfl)⟩
  k_Thing := He.mkr_ok (c0.t.d.fact 32 (f := .mkr "Thing") rfl)
  g_Files := He.glo_ok X G (c0.t.d.fact 33 (f := .glo "Files") rfl)
  x_Files := ⟨He.cls_ok (c0.t.d.fact 34 (f := .cls "Files") rfl), He.noat_ok (c0.t.d.fact 35 (f := .noat "Files" "disk") rfl), He.noat_ok (c0.t.d.fact 36 (f := .noat "Files" "state") rfl), He.noat_ok (c0.t.d.fact 37 (f := .noat "Files" "kept") rfl), He.noat_ok (c0.t.d.fact 38 (f := .noat "Files" "slot") rfl), He.noat_ok (c0.t.d.fact 39 (f := .noat "Files" "turn") rfl), He.noat_ok (c0.t.d.fact 40 (f := .noat "Files" "used") rfl), He.noat_ok (c0.t.d.fact 41 (f := .noat "Files" "is_new") rfl)⟩
  k_Files := He.mkr_ok (c0.t.d.fact 42 (f := .mkr "Files") rfl)
  d_Disk___init__ := c1.t.d.def_ 0 (d := d_Disk___init__) rfl
  m_Disk_write := He.meth_ok (c0.t.d.fact 43 (f := .meth "Disk" "write") rfl)
  d_Disk_write := c1.t.d.def_ 1 (d := d_Disk_write) rfl
  m_Disk_barrier := He.meth_ok (c0.t.d.fact 44 (f := .meth "Disk" "barrier") rfl)
  d_Disk_barrier := c1.t.d.def_ 2 (d := d_Disk_barrier) rfl
  g_many_blocks := He.glo_ok X G (c0.t.d.fact 45 (f := .glo "many_blocks") rfl)
  d_many_blocks := c1.t.d.def_ 3 (d := d_many_blocks) rfl
  g_padded := He.glo_ok X G (c0.t.d.fact 46 (f := .glo "padded") rfl)
  d_padded := c1.t.d.def_ 4 (d := d_padded) rfl
  g_write_chain := He.glo_ok X G (c0.t.d.fact 47 (f := .glo "write_chain") rfl)
  d_write_chain := c1.t.d.def_ 5 (d := d_write_chain) rfl
  g_write_root := He.glo_ok X G (c0.t.d.fact 48 (f := .glo "write_root") rfl)
  d_write_root := c1.t.d.def_ 6 (d := d_write_root) rfl
  g_is_name := He.glo_ok X G (c0.t.d.fact 49 (f := .glo "is_name") rfl)
  d_is_name := c1.t.d.def_ 7 (d := d_is_name) rfl
  g_need_name := He.glo_ok X G (c0.t.d.fact 50 (f := .glo "need_name") rfl)
  d_need_name := c1.t.d.def_ 8 (d := d_need_name) rfl
  g_parts := He.glo_ok X G (c0.t.d.fact 51 (f := .glo "parts") rfl)
  d_parts := c1.t.d.def_ 9 (d := d_parts) rfl
  d_Thing___init__ := c1.t.d.def_ 10 (d := d_Thing___init__) rfl
  g_fresh := He.glo_ok X G (c0.t.d.fact 52 (f := .glo "fresh") rfl)
  d_fresh := c1.t.d.def_ 11 (d := d_fresh) rfl
  g_copied := He.glo_ok X G (c0.t.d.fact 53 (f := .glo "copied") rfl)
  d_copied := c1.t.d.def_ 12 (d := d_copied) rfl
  g_least_free := He.glo_ok X G (c0.t.d.fact 54 (f := .glo "least_free") rfl)
  d_least_free := c1.t.d.def_ 13 (d := d_least_free) rfl
  g_entry_of := He.glo_ok X G (c0.t.d.fact 55 (f := .glo "entry_of") rfl)
  d_entry_of := c1.t.d.def_ 14 (d := d_entry_of) rfl
  g_walked := He.glo_ok X G (c0.t.d.fact 56 (f := .glo "walked") rfl)
  d_walked := c1.t.d.def_ 15 (d := d_walked) rfl
  g_place_of := He.glo_ok X G (c0.t.d.fact 57 (f := .glo "place_of") rfl)
  d_place_of := c1.t.d.def_ 16 (d := d_place_of) rfl
  g_text_bytes := He.glo_ok X G (c0.t.d.fact 58 (f := .glo "text_bytes") rfl)
  d_text_bytes := c1.t.d.def_ 17 (d := d_text_bytes) rfl
  g_thing_bytes := He.glo_ok X G (c0.t.d.fact 59 (f := .glo "thing_bytes") rfl)
  d_thing_bytes := c1.t.d.def_ 18 (d := d_thing_bytes) rfl
  g_state_bytes := He.glo_ok X G (c0.t.d.fact 60 (f := .glo "state_bytes") rfl)
  d_state_bytes := c1.t.d.def_ 19 (d := d_state_bytes) rfl
  g_image := He.glo_ok X G (c0.t.d.fact 61 (f := .glo "image") rfl)
  d_image := c1.t.d.def_ 20 (d := d_image) rfl
  d_Files___init__ := c1.t.d.def_ 21 (d := d_Files___init__) rfl
  m_Files_may_write := He.meth_ok (c0.t.d.fact 62 (f := .meth "Files" "may_write") rfl)
  d_Files_may_write := c1.t.d.def_ 22 (d := d_Files_may_write) rfl
  m_Files_become := He.meth_ok (c0.t.d.fact 63 (f := .meth "Files" "become") rfl)
  d_Files_become := c1.t.d.def_ 23 (d := d_Files_become) rfl
  m_Files_find := He.meth_ok (c0.t.d.fact 64 (f := .meth "Files" "find") rfl)
  d_Files_find := c1.t.d.def_ 24 (d := d_Files_find) rfl
  m_Files_place_for := He.meth_ok (c0.t.d.fact 65 (f := .meth "Files" "place_for") rfl)
  d_Files_place_for := c1.t.d.def_ 25 (d := d_Files_place_for) rfl
  m_Files_make := He.meth_ok (c0.t.d.fact 66 (f := .meth "Files" "make") rfl)
  d_Files_make := c1.t.d.def_ 26 (d := d_Files_make) rfl
  g_formatted := He.glo_ok X G (c0.t.d.fact 67 (f := .glo "formatted") rfl)
  d_formatted := c1.t.d.def_ 27 (d := d_formatted) rfl
  g__law_cell := He.glo_ok X G (c0.t.d.fact 68 (f := .glo "_law_cell") rfl)
  d__law_cell := c1.t.d.def_ 28 (d := d__law_cell) rfl
  g__law_drawn := He.glo_ok X G (c0.t.d.fact 69 (f := .glo "_law_drawn") rfl)
  d__law_drawn := c1.t.d.def_ 29 (d := d__law_drawn) rfl
  g__law_word := He.glo_ok X G (c0.t.d.fact 70 (f := .glo "_law_word") rfl)
  d__law_word := c1.t.d.def_ 30 (d := d__law_word) rfl
  g__law_is_name := He.glo_ok X G (c0.t.d.fact 71 (f := .glo "_law_is_name") rfl)
  d__law_is_name := c1.t.d.def_ 31 (d := d__law_is_name) rfl
  g__law_tree := He.glo_ok X G (c0.t.d.fact 72 (f := .glo "_law_tree") rfl)
  d__law_tree := c1.t.d.def_ 32 (d := d__law_tree) rfl
  g__law_due := He.glo_ok X G (c0.t.d.fact 73 (f := .glo "_law_due") rfl)
  d__law_due := c1.t.d.def_ 33 (d := d__law_due) rfl
  g__law_told := He.glo_ok X G (c0.t.d.fact 74 (f := .glo "_law_told") rfl)
  d__law_told := c1.t.d.def_ 34 (d := d__law_told) rfl
  g__law_path := He.glo_ok X G (c0.t.d.fact 75 (f := .glo "_law_path") rfl)
  d__law_path := c1.t.d.def_ 35 (d := d__law_path) rfl
  g_law := He.glo_ok X G (c0.t.d.fact 76 (f := .glo "law") rfl)
  d_law := c1.t.d.def_ 36 (d := d_law) rfl
  b_len := He.free_ok X G (c0.t.d.fact 77 (f := .free "len") rfl)
  b_all := He.free_ok X G (c0.t.d.fact 78 (f := .free "all") rfl)
  b_any := He.free_ok X G (c0.t.d.fact 79 (f := .free "any") rfl)
  b_min := He.free_ok X G (c1.t.d.fact 0 (f := .free "min") rfl)
  b_max := He.free_ok X G (c1.t.d.fact 1 (f := .free "max") rfl)
  b_ord := He.free_ok X G (c1.t.d.fact 2 (f := .free "ord") rfl)
  b_sorted := He.free_ok X G (c1.t.d.fact 3 (f := .free "sorted") rfl)
  b_list := He.free_ok X G (c1.t.d.fact 4 (f := .free "list") rfl)
  b_dict := He.free_ok X G (c1.t.d.fact 5 (f := .free "dict") rfl)
  b_tuple := He.free_ok X G (c1.t.d.fact 6 (f := .free "tuple") rfl)
  b_int := He.free_ok X G (c1.t.d.fact 7 (f := .free "int") rfl)
  b_range := He.free_ok X G (c1.t.d.fact 8 (f := .free "range") rfl)
  b_isinstance := He.free_ok X G (c1.t.d.fact 9 (f := .free "isinstance") rfl)
  b_ValueError := He.free_ok X G (c1.t.d.fact 10 (f := .free "ValueError") rfl)
  i_SIZE := He.int_ok X G (c1.t.d.fact 11 (f := .int "SIZE" 64) rfl)
  i_LEAST := He.int_ok X G (c1.t.d.fact 12 (f := .int "LEAST" 16) rfl)
  i_MOST := He.int_ok X G (c1.t.d.fact 13 (f := .int "MOST" 256) rfl)
  i_PAYLOAD := He.int_ok X G (c1.t.d.fact 14 (f := .int "PAYLOAD" 62) rfl)
  i_MARK := He.int_ok X G (c1.t.d.fact 15 (f := .int "MARK" 83) rfl)
  i_FIRST := He.int_ok X G (c1.t.d.fact 16 (f := .int "FIRST" 2) rfl)
  i_MOST_NAME := He.int_ok X G (c1.t.d.fact 17 (f := .int "MOST_NAME" 8) rfl)
  i_MOST_PATH := He.int_ok X G (c1.t.d.fact 18 (f := .int "MOST_PATH" 60) rfl)
  z_SIGNS := He.str_ok X G (c1.t.d.fact 19 (f := .str "SIGNS" txt_SIGNS) rfl)
  i_MOST_THINGS := He.int_ok X G (c1.t.d.fact 20 (f := .int "MOST_THINGS" 32) rfl)
  i_MOST_SIZE := He.int_ok X G (c1.t.d.fact 21 (f := .int "MOST_SIZE" 600) rfl)
  i_MOST_ENTRIES := He.int_ok X G (c1.t.d.fact 22 (f := .int "MOST_ENTRIES" 40) rfl)
  x10 := xk_ok (Bool.and_eq_true_iff.mp c0.more).1
  is_Files := insB_ok (He.cls_ok (c0.t.d.fact 34 (f := .cls "Files") rfl)) (Bool.and_eq_true_iff.mp c0.more).2
theorem all_law {P : Program} {w : World} {K : PySem.W.Frag} {mg : Str → Option Value} {base : Heap} (T : Tx K mg) {fd : FuncData} (F : FunD K "law" "law" (defArgs s_law) (defBody s_law) (defScope s_law) [] [] (He.ga K "law") fd) : FnOk P w K mg base (L2.CX P w) 7 (He.ga K "law") fd ["_law_script"] (sp_law K) := by
  have c_Disk___init__ : Ct_Disk___init__ P w K mg base := ok_Disk___init__ T
  have c_Thing___init__ : Ct_Thing___init__ P w K mg base := ok_Thing___init__ T
  have c_fresh : Ct_fresh P w K mg base := ok_fresh T c_Thing___init__
  have c_Files___init__ : Ct_Files___init__ P w K mg base := ok_Files___init__ T
  have c_text_bytes : Ct_text_bytes P w K mg base := ok_text_bytes T
  have c_thing_bytes : Ct_thing_bytes P w K mg base := ok_thing_bytes T c_text_bytes
  have c_state_bytes : Ct_state_bytes P w K mg base := ok_state_bytes T c_thing_bytes
  have c_image : Ct_image P w K mg base := ok_image T c_state_bytes c_text_bytes
  have c_padded : Ct_padded P w K mg base := ok_padded T
  have c_Disk_write : Ct_Disk_write P w K mg base := ok_Disk_write T
  have c_write_chain : Ct_write_chain P w K mg base := ok_write_chain T c_padded c_Disk_write
  have c_write_root : Ct_write_root P w K mg base := ok_write_root T c_padded c_Disk_write
  have c_Disk_barrier : Ct_Disk_barrier P w K mg base := ok_Disk_barrier T
  have c_formatted : Ct_formatted P w K mg base := ok_formatted T c_fresh c_Files___init__ c_image c_write_chain c_write_root c_padded c_Disk_write c_Disk_barrier
  have c_Files_may_write : Ct_Files_may_write P w K mg base := ok_Files_may_write T
  have c_is_name : Ct_is_name P w K mg base := ok_is_name T
  have c_need_name : Ct_need_name P w K mg base := ok_need_name T c_is_name
  have c_parts : Ct_parts P w K mg base := ok_parts T c_need_name
  have c_entry_of : Ct_entry_of P w K mg base := ok_entry_of T
  have c_walked : Ct_walked P w K mg base := ok_walked T c_entry_of
  have c_place_of : Ct_place_of P w K mg base := ok_place_of T c_walked
  have c_Files_place_for : Ct_Files_place_for P w K mg base := ok_Files_place_for T c_place_of
  have c_least_free : Ct_least_free P w K mg base := ok_least_free T
  have c_copied : Ct_copied P w K mg base := ok_copied T c_Thing___init__
  have c_many_blocks : Ct_many_blocks P w K mg base := ok_many_blocks T
  have c_Files_become : Ct_Files_become P w K mg base := ok_Files_become T c_image c_many_blocks
  have c_Files_make : Ct_Files_make P w K mg base := ok_Files_make T c_Files_may_write c_parts c_Files_place_for c_least_free c_copied c_Thing___init__ c_Files_become
  have c__law_cell : Ct__law_cell P w K mg base := ok__law_cell T
  have c__law_drawn : Ct__law_drawn P w K mg base := ok__law_drawn T
  have c__law_path : Ct__law_path P w K mg base := ok__law_path T
  have c_Files_find : Ct_Files_find P w K mg base := ok_Files_find T c_parts c_walked
  have c__law_word : Ct__law_word P w K mg base := ok__law_word T
  have c__law_told : Ct__law_told P w K mg base := ok__law_told T c_Files_find c__law_word
  have c__law_is_name : Ct__law_is_name P w K mg base := ok__law_is_name T
  have c__law_tree : Ct__law_tree P w K mg base := ok__law_tree T
  have c__law_due : Ct__law_due P w K mg base := ok__law_due T c__law_is_name c__law_tree
  exact okf_law T c_Disk___init__ c_formatted c_Files_make c__law_cell c__law_drawn c__law_path c__law_told c__law_due F
end SP
open PySem PySem.W PySem.Calls PyProof.Rows
theorem PySem.Challenge.cw_stillpoint_k12_paths_holds : PySem.Challenge.rw_stillpoint_k12_paths.Holds := by
  w_on; o_law
  refine HandSHeadRun.head_any (r := OpenLaw.row PySem.Challenge.rw_stillpoint_k12_paths) (q := view (OpenLaw.row PySem.Challenge.rw_stillpoint_k12_paths).prog [61]) (H := HQ.hookQ SP.chs) (ob := HQ.obQ SP.chs) (M := 8000) (loose := SP.names) (d := HandSHeadRun.topDef (OpenLaw.row PySem.Challenge.rw_stillpoint_k12_paths).prog 61) (kwd := []) (HQ.obQ_eq SP.chs)
    (by kernel_rfl) (fun s => by kernel_rfl) (HQ.join SP.run_l SP.run_s ?hr) (by kernel_rfl) (by kernel_rfl) (by kernel_rfl) (by rfl) (by first | assumption | decide +kernel) (by decide +kernel) ⟨rfl, rfl, rfl, rfl, rfl, by decide +kernel⟩ ?hw ?hc
  case hr =>
    intro x hx
    simp only [SP.chs, List.mem_cons, List.not_mem_nil, or_false] at hx
    rcases hx with rfl | rfl
    · exact SP.run_0
    · exact SP.run_1
  case hw => w_witness2
  case hc =>
    refine LamX.walk_ofTsE (l := PySem.Challenge.rw_stillpoint_k12_paths) (n := 63) (k := 7) (x := "_law_script") (CX := L2.CX (PySem.Challenge.rw_stillpoint_k12_paths).prog) rfl (by decide) (by kernel_rfl) ⟨rfl, by decide, by decide⟩ ?F ?X
    case X =>
      rintro w H s e s' ⟨_, _, _, _, _, _, _, _, _, _, _, _, z⟩
      exact z
    case F =>
      intro w mg fa h Y G hmg0
      obtain ⟨K, KX, c⟩ := Y
      have hmg : mg ("law" : PySem.Str) = some (.ref fa) := by
        have e : (HandSHeadRun.topDef (OpenLaw.row PySem.Challenge.rw_stillpoint_k12_paths).prog 61).name = ("law" : PySem.Str) := by kernel_rfl
        rw [← e]
        exact hmg0
      have T : SP.Tx K mg := SP.tx_of KX G (c _ (by simp [SP.chs])) (c _ (by simp [SP.chs]))
      have e := hmg.symm.trans T.g_law
      cases e
      obtain ⟨fd, F⟩ := T.d_law
      have b := L2.FunD.bindsA (ps := ["_law_script"]) F fun _ _ _ _ _ _ us hl => match us, hl with | [_], _ => rfl
      exact ⟨K, KX, fd, [], SP.sp_law K, fun _ z => (List.not_mem_nil z).elim, fun _ z => (List.not_mem_nil z).elim, fun _ z => (List.not_mem_nil z).elim, fun s v => b s [v] rfl, fun H a ns hl hb _ hS => ⟨a, ns, rfl, hS, hl, fun _ => rfl⟩, fun base _ _ _ => SP.all_law T F⟩
