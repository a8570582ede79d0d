import PyProof.Rows.All
import Wide.All
import OpenK.AllK
import Wide.FinOn
import KE.KStateDown
import HandS.ForMost
import HandS.Exc
import HandS.TryOnly
import HandS.TryMany
import HandS.ExcOwn
import HandS.Defaults
import HandS.WordsExc
import HandS.HotCalls
import HandS.HeadHook2
import HandS.TupMul
import HandS.TupAny
import HandS.Wide
import HandS.Deep
import HandS.Walk
import HandS.ExcIs
import HandS.IsInst
import Lean
import HandS.Head0
import HandS.Head1
import HandS.Head2
import HandS.HeadEnd
import HandS.HeadHook1
import HandS.HeadHook3
import HandS.HeadHook4
import HandS.EndTab
import HandS.HeadWalk
import HandS.More
import PyProof.StrOps2
import HandS.Codes
import KE.KDictList
import HandS.ListItems
import HandS.SetFor
import PySem.Challenge.RW_stillpoint_k14_bytes_of_files
set_option Elab.async false
set_option linter.all false
set_option maxRecDepth 100000
set_option maxHeartbeats 4000000
/-! Own rules over the layer: calls whose raise is wished at the slots; constants of the module. -/
namespace SP
open PySem PySem.Spec PyProof.Rows L2

/-! ### calls by a wish W -/
section
variable {X : Cx} {k : Nat} {f C : Addr} {fd : FuncData} {ps : List Str} {sp : Sp} {W : WX} {x m : Str} {p pos apos : Pos} {e o : Expr} {es : List Expr} {ta : TE} {t : TA}
abbrev OkX (X : Cx) (k : Nat) (f : Addr) (fd : FuncData) (ps : List Str) (sp : Sp) : Prop := FnOk X.prog X.w X.K X.mg X.base (L2.CX X.prog X.w) k f fd ps sp
def tCallW (sp : Sp) (W : WX) (t : TA) : TE := fun σ H Q => t σ H fun vs H1 => sp vs H1 Q fun c d H2 => W c d σ H2
theorem pe_callW (F : OkX X k f fd ps sp) (hr : Room k X.A) (hm : X.mg x = some (.ref f)) (hk : PySem.W.keepIn X.K (.ref f) = true) (hb : Binds X.K fd ps []) (tk : Takes X W)
    (ha : PA X (e :: es) t) (hg : Gl X x := by rfl) (hdb : (x == ("__debug__" : Str)) = false := by decide) (he : starEach (e :: es) X.env = (false, eval e X.env) :: starEach es X.env := by rfl) (hpl : (backTo pos (starEach es X.env)).any (·.1) = false := by rfl) :
    PE X (.Call (.Name x p) (e :: es) [] pos) (tCallW sp W t) := pe_callS F hr hg hm hk hb (fun σ => passAt tk σ) ha hdb he hpl
theorem pe_callW0 (F : OkX X k f fd ps sp) (hr : Room k X.A) (hm : X.mg x = some (.ref f)) (hk : PySem.W.keepIn X.K (.ref f) = true) (hb : Binds X.K fd ps []) (tk : Takes X W)
    (hg : Gl X x := by rfl) (hdb : (x == ("__debug__" : Str)) = false := by decide) :
    PE X (.Call (.Name x p) [] [] pos) (tCallW sp W tNil) := by
  refine ⟨fun pins s σ H Q I h => ?_⟩
  refine wpAny_Call_Name_kw (ld_glob I hg hm ?_ hdb)
  exact PySem.W.callWith_K0 I.kIn hk (run_fnS (us := []) F hr hb (passAt tk σ) I .nil h)
def tMethW (C : Addr) (m : Str) (sp : Sp) (W : WX) (ta : TE) (t : TA) : TE := fun σ H Q => ta σ H fun x H1 => ∃ a dx fs, x = .ref a ∧ H1 a = some (.ins C dx fs) ∧ fs.lookup m = none ∧ t σ H1 fun vs H2 => sp (x :: vs) H2 Q fun c d H3 => W c d σ H3
theorem pe_methW {pl : Sem Bool} (he : PE X o ta) (c : Cls X.K C) (hm : Meth X.K C m f) (F : OkX X k f fd ps sp) (hr : Room k X.A) (hb : Binds X.K fd ps []) (tk : Takes X W) (ha : PA X (e :: es) t)
    (hst : starEach (e :: es) X.env = (false, eval e X.env) :: starEach es X.env := by rfl) (hpl : (backTo pos (starEach es X.env)).any (·.1) = false := by rfl)
    (ht : eval (.Call (.Attribute o m apos) (e :: es) [] pos) X.env = (do
      let ov ← eval o X.env
      standAt apos.atName
      let (f, first) ← holding [ov] (getMethod ov m pl)
      callWith pos f first (backTo pos (starEach (e :: es) X.env)) (backToKw pos (keywordEach [] X.env))) := by rfl) :
    PE X (.Call (.Attribute o m apos) (e :: es) [] pos) (tMethW C m sp W ta t) := by
  refine ⟨fun pins s σ H Q I h => ?_⟩
  refine PySem.W.methodCall_KW (pl := pl) (thn (he.run pins s σ H _ I h) fun u s1 ⟨x, H1, I1, rx, a, dx, fs, ex, ea, l, q⟩ => ?_) ht
  subst ex
  obtain rfl : u = Value.ref a := rx
  refine getmeth_ok I1 ea c hm l ?_
  refine PySem.W.callWith_K (first := [.ref a]) (h₀ := X.base) I.ok.mod.kin hm.kp (thn (ha.run pos pins s1 σ H1 _ I1 q) fun us s2 ⟨vs, H2, I2, r, q2⟩ => ⟨I2.kIn, ?_⟩) hst hpl
  exact run_fnS (us := .ref a :: us) (vs := .ref a :: vs) F hr hb (passAt tk σ) I2 (.cons rfl r) q2
theorem pe_methW0 {pl : Sem Bool} (he : PE X o ta) (c : Cls X.K C) (hm : Meth X.K C m f) (F : OkX X k f fd ps sp) (hr : Room k X.A) (hb : Binds X.K fd ps []) (tk : Takes X W)
    (ht : eval (.Call (.Attribute o m apos) [] [] pos) X.env = (do
      let ov ← eval o X.env
      standAt apos.atName
      let (f, first) ← holding [ov] (getMethod ov m pl)
      callWith pos f first (backTo pos (starEach [] X.env)) (backToKw pos (keywordEach [] X.env))) := by rfl) :
    PE X (.Call (.Attribute o m apos) [] [] pos) (tMethW C m sp W ta tNil) := by
  refine ⟨fun pins s σ H Q I h => ?_⟩
  refine PySem.W.methodCall_KW (pl := pl) (thn (he.run pins s σ H _ I h) fun u s1 ⟨x, H1, I1, rx, a, dx, fs, ex, ea, l, q⟩ => ?_) ht
  subst ex
  obtain rfl : u = Value.ref a := rx
  refine getmeth_ok I1 ea c hm l ?_
  exact PySem.W.callWith_K0 (first := [.ref a]) I1.kIn hm.kp (run_fnS (us := [.ref a]) (vs := [.ref a]) F hr hb (passAt tk σ) I1 (.cons rfl .nil) q)
/-- a new instance's promise: __init__'s at the fresh x -/
def tMakeW (C : Addr) (sp : Sp) (W : WX) (t : TA) : TE := fun σ H Q => t σ H fun vs H1 => ∀ x dx, H1 x = none → H1 dx = none → dx ≠ x →
  sp (.ref x :: vs) (upd (upd H1 dx (.own x)) x (.ins C dx [])) (fun v H2 => v = .non ∧ Q (.ref x) H2) fun c d H2 => W c d σ H2
theorem run_makeW {pins : List (Addr × Obj)} {σ : L2.St} {H : Hp} {s : Shared} {Q : VK} {us : List Value} {vs : List V} (M : Mk X.K C f) (F : OkX X k f fd ps sp) (hr : Room (k + 1) X.A) (hb : Binds X.K fd ps [])
    (tk : Takes X W) (I : Inv X pins σ H s) (r : Vals vs us)
    (h : ∀ x dx, H x = none → H dx = none → dx ≠ x → sp (.ref x :: vs) (upd (upd H dx (.own x)) x (.ins C dx [])) (fun v H2 => v = .non ∧ Q (.ref x) H2) fun c d H2 => W c d σ H2) :
    wpAny (model X.prog X.w) X.A (call (.ref C) us) (EP X pins σ Q) X.xe s := by
  have hq := h (s.heap.objs.size + 1) s.heap.objs.size (I.hok.fresh (Nat.le_succ _)) (I.hok.fresh (Nat.le_refl _)) (Nat.ne_of_lt (Nat.lt_succ_self _))
  have I2 := Inv.made (C := C) I
  have r2 : Vals (V.ref (s.heap.objs.size + 1) :: vs) (Value.ref (s.heap.objs.size + 1) :: us) := .cons rfl r
  have hl : (Value.ref (s.heap.objs.size + 1) :: us).length = ps.length := by
    have e := r2.length
    rw [F.len _ _ _ _ hq] at e
    exact e.symm
  have b := hb { s with heap := (s.heap.push (PySem.W.instObj C s.heap.objs.size)) } (Value.ref (s.heap.objs.size + 1) :: us)
  refine wpAny_call (make_map (f := f) I.kIn M.makes M.init (beq_iff_eq.mp M.fn) (codeAny_mono (F.run _ X.stack _ _ ⟨Value.ref (s.heap.objs.size + 1) :: us, []⟩ (Value.ref (s.heap.objs.size + 1) :: us) _ _ (fun c d H2 => W c d σ H2) (hr.make C us [])
    (I2.env0.make C us []) (by have z := hb _ (Value.ref (s.heap.objs.size + 1) :: us) I2.kIn (by rw [List.append_nil]; exact hl); rw [List.append_nil] at z; exact z) r2 hq) fun r s' hq' => ?_))
  cases r with
  | error e => exact passAt tk σ pins _ _ e s' I2 hq'
  | ok fl =>
    cases fl with
    | ret u =>
      obtain ⟨v, H', I3, rv, ev, q3⟩ := I2.after hq'
      subst ev
      exact ⟨rv, ⟨V.ref (s.heap.objs.size + 1), H', I3, rfl, q3⟩⟩
    | next => exact False.elim hq'
    | brk => exact False.elim hq'
    | cont => exact False.elim hq'
theorem pe_makeW (M : Mk X.K C f) (F : OkX X k f fd ps sp) (hr : Room (k + 1) X.A) (hm : X.mg x = some (.ref C)) (hb : Binds X.K fd ps []) (tk : Takes X W)
    (ha : PA X (e :: es) t) (hg : Gl X x := by rfl) (hdb : (x == ("__debug__" : Str)) = false := by decide) (he : starEach (e :: es) X.env = (false, eval e X.env) :: starEach es X.env := by rfl) (hpl : (backTo pos (starEach es X.env)).any (·.1) = false := by rfl) :
    PE X (.Call (.Name x p) (e :: es) [] pos) (tMakeW C sp W t) := by
  refine ⟨fun pins s σ H Q I h => ?_⟩
  refine wpAny_Call_Name_kw (ld_glob I hg hm ?_ hdb)
  refine PySem.W.callWith_K (h₀ := X.base) I.ok.mod.kin M.kp (thn (ha.run pos pins s σ H _ I h) fun us s1 ⟨vs, H1, I1, r, q⟩ => ⟨I1.kIn, ?_⟩) he hpl
  exact run_makeW M F hr hb tk I1 r q
end
/-! ### constants of the module -/
section
variable {X : Cx} {x : Str} {pos : Pos}
theorem pe_gint {n : Int} (hm : ∃ t, X.mg x = some (.int n t)) (hg : Gl X x := by rfl) (hd : (x == ("__debug__" : Str)) = false := by decide) : PE X (.Name x pos) (tC (.int n)) :=
  let ⟨t, h⟩ := hm
  pe_glob hg h ⟨t, rfl⟩ hd
theorem pe_gstr {z : Str} (hm : ∃ t, X.mg x = some (.str z t)) (hg : Gl X x := by rfl) (hd : (x == ("__debug__" : Str)) = false := by decide) : PE X (.Name x pos) (tC (.str z)) :=
  let ⟨t, h⟩ := hm
  pe_glob hg h ⟨t, rfl⟩ hd
theorem pe_gref {a : Addr} (hm : X.mg x = some (.ref a)) (hg : Gl X x := by rfl) (hd : (x == ("__debug__" : Str)) = false := by decide) : PE X (.Name x pos) (tC (.ref a)) :=
  pe_glob hg hm rfl hd
end
/-! ### raising -/
def tRaiseW (W : WX) (c : Addr) : TS := fun _ σ H => W (.ref c) none σ H
structure ExcX (K : PySem.W.Frag) (mg : Str → Option Value) (x : Str) : Prop where
  g : mg x = some (.ref (He.ga K x))
  xx : PySem.W.excIn K (He.ga K x) He.veBase "ValueError.__new__" = true
  k : PySem.W.keepIn K (.ref (He.ga K x)) = true
  s : PySem.W.subIn K (.ref (He.ga K x)) (.type "BaseException") = some true
  t : PySem.W.typeIn K (.ref (He.ga K x)) = some (.type "type")
theorem ps_raiseW {X : Cx} {W : WX} {x m : Str} {j : Nat} {p p2 pos pos2 : Pos} (hc : X.calm = true) (tk : Takes X W) (E : ExcX X.K X.mg x) (hg : Gl X x := by rfl) (hd : (x == ("__debug__" : Str)) = false := by decide) :
    PS X (.Raise (some (.Call (.Name x p) [.Constant (.str m) j p2] [] pos)) none pos2) (tRaiseW W (He.ga X.K x)) :=
  ps_raise hc tk (pmk_own PySem.F.excBase_ValueError E.xx E.g E.k (raises_own E.s E.t) hg (hdb := hd))
end SP

set_option Elab.async false
set_option linter.all false
set_option maxRecDepth 100000
set_option maxHeartbeats 4000000
/-! Plain data, heaps cut and extended, what stands in a heap. -/
namespace SP
open PySem PySem.Spec PyProof.Rows L2

/-! ### tables: lists of pairs, as dicts keep them -/
section
variable {κ β : Type} [DecidableEq κ]
def lk (l : List (κ × β)) (k : κ) : Option β := (l.find? fun kv => decide (kv.1 = k)).map (·.2)
def pt (l : List (κ × β)) (k : κ) (v : β) : List (κ × β) :=
  if (l.any fun kv => decide (kv.1 = k)) = true then l.map (fun kv => if kv.1 = k then (kv.1, v) else kv) else l ++ [(k, v)]
def dp (l : List (κ × β)) (k : κ) : List (κ × β) := l.filter fun kv => decide (kv.1 ≠ k)
theorem lk_nil (k : κ) : lk ([] : List (κ × β)) k = none := rfl
theorem lk_cons (a : κ) (b : β) (l : List (κ × β)) (k : κ) : lk ((a, b) :: l) k = if a = k then some b else lk l k := by
  unfold lk
  rw [List.find?_cons]
  by_cases h : a = k <;> simp [h]
theorem lk_any (k : κ) : ∀ l : List (κ × β), (l.any fun kv => decide (kv.1 = k)) = (lk l k).isSome
  | [] => rfl
  | (a, b) :: r => by
    rw [List.any_cons, lk_cons, lk_any k r]
    by_cases h : a = k <;> simp [h]
theorem lk_mem {k : κ} {v : β} : ∀ {l : List (κ × β)}, lk l k = some v → (k, v) ∈ l
  | [], h => by cases h
  | (a, b) :: r, h => by
    rw [lk_cons] at h
    by_cases e : a = k
    · rw [if_pos e] at h
      cases h
      subst e
      exact List.mem_cons_self
    · rw [if_neg e] at h
      exact List.mem_cons_of_mem _ (lk_mem h)
theorem lk_none {k : κ} : ∀ {l : List (κ × β)}, lk l k = none ↔ k ∉ l.map (·.1)
  | [] => by simp [lk_nil]
  | (a, b) :: r => by
    rw [lk_cons]
    by_cases e : a = k
    · simp [e]
    · rw [if_neg e, lk_none (l := r)]
      simp only [List.map_cons, List.mem_cons, not_or]
      exact ⟨fun h => ⟨fun z => e z.symm, h⟩, fun h => h.2⟩
theorem lk_of_mem {k : κ} {v : β} : ∀ {l : List (κ × β)}, (l.map (·.1)).Nodup → (k, v) ∈ l → lk l k = some v
  | [], _, h => by cases h
  | (a, b) :: r, nd, h => by
    rw [lk_cons]
    rw [List.map_cons, List.nodup_cons] at nd
    rcases List.mem_cons.mp h with e | e
    · cases e
      exact if_pos rfl
    · have hk : k ∈ r.map (·.1) := List.mem_map.mpr ⟨_, e, rfl⟩
      rw [if_neg (fun z => nd.1 (by rw [z]; exact hk))]
      exact lk_of_mem nd.2 e
theorem pt_new {l : List (κ × β)} {k : κ} (v : β) (h : lk l k = none) : pt l k v = l ++ [(k, v)] := by
  unfold pt
  rw [lk_any, h]
  exact if_neg Bool.false_ne_true
theorem pt_old {l : List (κ × β)} {k : κ} {u : β} (v : β) (h : lk l k = some u) : pt l k v = l.map (fun kv => if kv.1 = k then (kv.1, v) else kv) := by
  unfold pt
  rw [lk_any, h]
  exact if_pos rfl
theorem lk_map (k j : κ) (y : β) : ∀ l : List (κ × β), lk (l.map fun kv => if kv.1 = k then (kv.1, y) else kv) j = (lk l j).map fun x => if j = k then y else x
  | [] => rfl
  | (a, b) :: r => by
    have ih := lk_map k j y r
    rw [List.map_cons]
    by_cases e : a = k
    · rw [if_pos e, lk_cons, lk_cons, ih]
      by_cases e2 : a = j
      · rw [if_pos e2, if_pos e2, Option.map_some, if_pos (e2.symm.trans e)]
      · rw [if_neg e2, if_neg e2]
    · rw [if_neg e, lk_cons, lk_cons, ih]
      by_cases e2 : a = j
      · rw [if_pos e2, if_pos e2, Option.map_some, if_neg (fun z => e (e2.trans z))]
      · rw [if_neg e2, if_neg e2]
theorem lk_snoc (l : List (κ × β)) (k j : κ) (y : β) : lk (l ++ [(k, y)]) j = (lk l j).or (if k = j then some y else none) := by
  induction l with
  | nil => rw [List.nil_append, lk_cons, lk_nil]; simp [lk_nil]
  | cons p r ih =>
    obtain ⟨a, b⟩ := p
    rw [List.cons_append, lk_cons, lk_cons, ih]
    by_cases e : a = j <;> simp [e]
theorem lk_pt (l : List (κ × β)) (k j : κ) (y : β) : lk (pt l k y) j = if j = k then some y else lk l j := by
  cases h : lk l k with
  | none =>
    rw [pt_new y h, lk_snoc]
    by_cases e : j = k
    · subst e
      simp [h]
    · have e2 : ¬ k = j := fun z => e z.symm
      simp [e, e2]
  | some u =>
    rw [pt_old y h, lk_map]
    by_cases e : j = k
    · subst e
      simp [h]
    · simp only [e, if_false]
      cases lk l j <;> rfl
theorem lk_dp (l : List (κ × β)) (k j : κ) : lk (dp l k) j = if j = k then none else lk l j := by
  induction l with
  | nil => simp [dp, lk_nil]
  | cons p r ih =>
    obtain ⟨a, b⟩ := p
    unfold dp at ih ⊢
    rw [List.filter_cons]
    by_cases e : a = k
    · subst e
      have z : decide ((a, b).1 ≠ a) = false := by simp
      rw [if_neg (by rw [z]; decide), ih, lk_cons]
      by_cases e2 : j = a
      · simp [e2]
      · have e3 : ¬ a = j := fun z => e2 z.symm
        simp [e2, e3]
    · have z : decide ((a, b).1 ≠ k) = true := by simp [e]
      rw [if_pos z, lk_cons, lk_cons, ih]
      by_cases e2 : a = j
      · subst e2
        simp [e]
      · simp [e2]
theorem keys_pt_old {l : List (κ × β)} {k : κ} {u : β} (v : β) (h : lk l k = some u) : (pt l k v).map (·.1) = l.map (·.1) := by
  rw [pt_old v h, List.map_map]
  refine List.map_congr_left fun p _ => ?_
  show (if p.1 = k then (p.1, v) else p).1 = p.1
  split <;> rfl
theorem nd_pt {l : List (κ × β)} {k : κ} (v : β) (nd : (l.map (·.1)).Nodup) : ((pt l k v).map (·.1)).Nodup := by
  cases h : lk l k with
  | none =>
    rw [pt_new v h, List.map_append]
    refine List.nodup_append.mpr ⟨nd, by simp, fun a ha b hb => ?_⟩
    have eb : b = k := by simpa using hb
    subst eb
    exact fun z => (lk_none.mp h) (by rw [← z]; exact ha)
  | some u =>
    rw [keys_pt_old v h]
    exact nd
theorem nd_dp {l : List (κ × β)} {k : κ} (nd : (l.map (·.1)).Nodup) : ((dp l k).map (·.1)).Nodup :=
  nd.sublist (List.Sublist.map _ List.filter_sublist)
theorem mem_dp {l : List (κ × β)} {k : κ} {p : κ × β} : p ∈ dp l k ↔ p ∈ l ∧ p.1 ≠ k := by
  unfold dp
  rw [List.mem_filter, decide_eq_true_eq]
theorem dp_none {l : List (κ × β)} {k : κ} (h : lk l k = none) : dp l k = l := by
  unfold dp
  refine List.filter_eq_self.mpr fun p hp => decide_eq_true fun z => (lk_none.mp h) ?_
  rw [← z]
  exact List.mem_map.mpr ⟨p, hp, rfl⟩
theorem dp_len {l : List (κ × β)} {k : κ} {v : β} (nd : (l.map (·.1)).Nodup) (h : lk l k = some v) : (dp l k).length + 1 = l.length := by
  induction l with
  | nil => cases h
  | cons p r ih =>
    obtain ⟨a, b⟩ := p
    rw [List.map_cons, List.nodup_cons] at nd
    rw [lk_cons] at h
    by_cases e : a = k
    · subst e
      have z : dp ((a, b) :: r) a = r := by
        unfold dp
        rw [List.filter_cons, if_neg (by simp)]
        have := dp_none (l := r) (k := a) (lk_none.mpr nd.1)
        unfold dp at this
        exact this
      rw [z]
      rfl
    · rw [if_neg e] at h
      have := ih nd.2 h
      have z : dp ((a, b) :: r) k = (a, b) :: dp r k := by
        unfold dp
        rw [List.filter_cons, if_pos (by simp [e])]
      rw [z, List.length_cons, List.length_cons, this]
theorem pt_len_old {l : List (κ × β)} {k : κ} {u : β} (v : β) (h : lk l k = some u) : (pt l k v).length = l.length := by
  rw [pt_old v h, List.length_map]
theorem pt_len_new {l : List (κ × β)} {k : κ} (v : β) (h : lk l k = none) : (pt l k v).length = l.length + 1 := by
  rw [pt_new v h, List.length_append]
  rfl
end

/-! ### heaps -/
/-- to be read as before: all stands, but a dict may be locked -/
def Le (H H' : Hp) : Prop := ∀ a o, H a = some o → H' a = some o ∨ ∃ kvs od, o = .dK kvs ∧ H' a = some (.frz od o)
theorem Le.refl (H : Hp) : Le H H := fun _ _ h => .inl h
theorem Le.trans {H H1 H2 : Hp} (a : Le H H1) (b : Le H1 H2) : Le H H2 := fun x o h => by
  rcases a x o h with h1 | ⟨kvs, od, rfl, h1⟩
  · exact b x o h1
  · rcases b x _ h1 with h2 | ⟨_, _, e, _⟩
    · exact .inr ⟨kvs, od, rfl, h2⟩
    · cases e
theorem Same.le {H H' : Hp} (e : Same H H') : Le H H' := fun a o h => .inl (e a o h)
theorem Le.lock {H : Hp} {d : Addr} {kvs : List (Key × V)} (h : H d = some (.dK kvs)) (od : Obj) : Le H (upd H d (.frz od (.dK kvs))) := fun a o e => by
  by_cases q : a = d
  · subst q
    rw [h] at e
    cases e
    exact .inr ⟨kvs, od, rfl, upd_same⟩
  · rw [upd_ne q]
    exact .inl e
theorem Le.lst {H H' : Hp} {a : Addr} {xs : List V} (e : Le H H') (h : H a = some (.lst xs)) : H' a = some (.lst xs) := by
  rcases e a _ h with h | ⟨_, _, z, _⟩
  · exact h
  · cases z
theorem Le.tup {H H' : Hp} {a : Addr} {xs : List V} (e : Le H H') (h : H a = some (.tup xs)) : H' a = some (.tup xs) := by
  rcases e a _ h with h | ⟨_, _, z, _⟩
  · exact h
  · cases z
theorem Le.ins {H H' : Hp} {a C dx : Addr} {fs : List (Str × V)} (e : Le H H') (h : H a = some (.ins C dx fs)) : H' a = some (.ins C dx fs) := by
  rcases e a _ h with h | ⟨_, _, z, _⟩
  · exact h
  · cases z
theorem Le.rd {H H' : Hp} {a : Addr} {kvs : List (Key × V)} (e : Le H H') (h : Rd H a (.dK kvs)) : Rd H' a (.dK kvs) := by
  rcases h with h | ⟨o, h⟩
  · rcases e a _ h with h | ⟨_, od, z, h⟩
    · exact .inl h
    · exact .inr ⟨od, h⟩
  · rcases e a _ h with h | ⟨_, _, z, _⟩
    · exact .inr ⟨o, h⟩
    · cases z
theorem Le.rdL {H H' : Hp} {a : Addr} {xs : List V} (e : Le H H') (h : Rd H a (.lst xs)) : Rd H' a (.lst xs) := by
  rcases h with h | ⟨o, h⟩
  · exact .inl (e.lst h)
  · rcases e a _ h with h | ⟨_, _, z, _⟩
    · exact .inr ⟨o, h⟩
    · cases z
theorem Le.rdT {H H' : Hp} {a : Addr} {xs : List V} (e : Le H H') (h : Rd H a (.tup xs)) : Rd H' a (.tup xs) := by
  rcases h with h | ⟨o, h⟩
  · exact .inl (e.tup h)
  · rcases e a _ h with h | ⟨_, _, z, _⟩
    · exact .inr ⟨o, h⟩
    · cases z
theorem Le.sql {K : PySem.W.Frag} {H H' : Hp} {a : Addr} {xs : List V} (e : Le H H') (h : SqL K H a xs) : SqL K H' a xs := by
  rcases h with h | h
  · exact .inl (e.rdL h)
  · exact .inr h
theorem Le.sqt {K : PySem.W.Frag} {H H' : Hp} {a : Addr} {xs : List V} (e : Le H H') (h : SqT K H a xs) : SqT K H' a xs := by
  rcases h with h | h
  · exact .inl (e.rdT h)
  · exact .inr h
mutual
theorem Le.dp {K : PySem.W.Frag} {H H' : Hp} (e : Le H H') : ∀ {d : PyData} {v : V}, Dp K H v d → Dp K H' v d
  | .none, _, h => by cases h; exact .non
  | .bool b, _, h => by cases h; exact .bl b
  | .int i, _, h => by cases h; exact .int i
  | .str x, _, h => by cases h; exact .str x
  | .list ds, _, h => by
    cases h with
    | lst s a => exact .lst (e.sql s) (e.dpAll a)
  | .tuple ds, _, h => by
    cases h with
    | tup s a => exact .tup (e.sqt s) (e.dpAll a)
  | .dict _, _, h => by cases h
theorem Le.dpAll {K : PySem.W.Frag} {H H' : Hp} (e : Le H H') : ∀ {ds : List PyData} {vs : List V}, DpAll K H vs ds → DpAll K H' vs ds
  | [], _, h => by cases h; exact .nil
  | d :: ds, _, h => by
    cases h with
    | cons a b => exact .cons (e.dp a) (e.dpAll b)
end
theorem Same.new {H : Hp} {p : Addr} {o : HO} (h : H p = none) : Same H (upd H p o) := fun a u e => by
  rw [upd_ne (ne_of_none e h)]
  exact e
/-- what is new -/
def nw (H H' : Hp) : Hp := fun a => if (H a).isSome = true then none else H' a
theorem nw_le (H H' : Hp) : Le (nw H H') H' := fun a o h => by
  unfold nw at h
  split at h
  · cases h
  · exact .inl h
theorem nw_new {H H' : Hp} {a : Addr} {o : HO} (h : H a = none) (h' : H' a = some o) : nw H H' a = some o := by
  unfold nw
  rw [h, if_neg (by decide)]
  exact h'
theorem nw_none {H H' : Hp} {a : Addr} {o : HO} (h : nw H H' a = some o) : H a = none ∧ H' a = some o := by
  unfold nw at h
  split at h
  · cases h
  · rename_i q
    refine ⟨?_, h⟩
    cases e : H a with
    | none => rfl
    | some u => rw [e] at q; exact absurd rfl q
/-- what was new is new seen from before, and stays -/
theorem nw_mono {H0 H H' H'' : Hp} (b : Same H0 H) (e : Le H' H'') : Le (nw H H') (nw H0 H'') := fun a o h => by
  obtain ⟨h1, h2⟩ := nw_none h
  have h0 := b.free h1
  rcases e a o h2 with h3 | ⟨kvs, od, z, h3⟩
  · exact .inl (nw_new h0 h3)
  · exact .inr ⟨kvs, od, z, nw_new h0 h3⟩
/-- without some -/
def av (ms : List Addr) (H : Hp) : Hp := fun a => if a ∈ ms then none else H a
theorem av_le (ms : List Addr) (H : Hp) : Le (av ms H) H := fun a o h => by
  unfold av at h
  split at h
  · cases h
  · exact .inl h
theorem av_at {ms : List Addr} {H : Hp} {a : Addr} {o : HO} (h : H a = some o) (n : a ∉ ms) : av ms H a = some o := by
  unfold av
  rw [if_neg n]
  exact h
theorem av_of {ms : List Addr} {H : Hp} {a : Addr} {o : HO} (h : av ms H a = some o) : a ∉ ms ∧ H a = some o := by
  unfold av at h
  split at h
  · cases h
  · exact ⟨by assumption, h⟩
/-- all but some is as it was; a tuple never changes -/
structure Keep (ms : List Addr) (H H' : Hp) : Prop where
  k : ∀ a o, a ∉ ms → H a = some o → H' a = some o
  t : ∀ a xs, H a = some (.tup xs) → H' a = some (.tup xs)
theorem Keep.refl {ms : List Addr} {H : Hp} : Keep ms H H := ⟨fun _ _ _ h => h, fun _ _ h => h⟩
theorem Keep.of {ms : List Addr} {H H' : Hp} (e : Same H H') : Keep ms H H' := ⟨fun a o _ h => e a o h, fun a xs h => e a _ h⟩
theorem Keep.trans {ms : List Addr} {H H1 H2 : Hp} (a : Keep ms H H1) (b : Keep ms H1 H2) : Keep ms H H2 := ⟨fun x o n h => b.k x o n (a.k x o n h), fun x xs h => b.t x xs (a.t x xs h)⟩
theorem Keep.mono {ms ns : List Addr} {H H' : Hp} (e : Keep ms H H') (s : ∀ a ∈ ms, a ∈ ns) : Keep ns H H' := ⟨fun a o n h => e.k a o (fun z => n (s a z)) h, e.t⟩
theorem keepUpd {ms : List Addr} {H : Hp} {p : Addr} {o o0 : HO} (h : p ∈ ms) (h0 : H p = some o0) (hn : ∀ xs, o0 ≠ .tup xs) : Keep ms H (upd H p o) := ⟨fun a u n e => by
  rw [upd_ne (fun z => n (by rw [z]; exact h))]
  exact e, fun a xs e => by
  have z : a ≠ p := fun z => by
    rw [z, h0] at e
    exact hn xs (Option.some.inj e)
  rw [upd_ne z]
  exact e⟩
theorem Keep.av {ms : List Addr} {H H' : Hp} (e : Keep ms H H') : Le (av ms H) (av ms H') := fun a o h => by
  obtain ⟨n, h⟩ := av_of h
  exact .inl (av_at (e.k a o n h) n)
theorem Keep.av_le {ms : List Addr} {H H' : Hp} (e : Keep ms H H') : Le (SP.av ms H) H' := fun a o h => by
  obtain ⟨n, h⟩ := av_of h
  exact .inl (e.k a o n h)
/-- nothing kept but by Same where nothing is named -/
theorem Keep.same {H H' : Hp} (e : Keep [] H H') : Same H H' := fun a o h => e.k a o (by simp) h
theorem nw_av {ms : List Addr} {H H' : Hp} (h : ∀ a ∈ ms, (H a).isSome = true) : Le (nw H H') (av ms H') := fun a o e => by
  obtain ⟨h1, h2⟩ := nw_none e
  refine .inl (av_at h2 fun z => ?_)
  have q := h a z
  rw [h1] at q
  cases q
theorem av_mono {ms ns : List Addr} {H : Hp} (s : ∀ a ∈ ns, a ∈ ms) : Le (av ms H) (av ns H) := fun a o h => by
  obtain ⟨n, h⟩ := av_of h
  exact .inl (av_at h fun z => n (s a z))
theorem Same.av {ms : List Addr} {H H' : Hp} (e : Same H H') : Le (SP.av ms H) (SP.av ms H') := (Keep.of e).av
/-- the heap behind an unlocked dict -/
theorem Same.unlock {H H' : Hp} {d : Addr} {od : Obj} {kvs : List (Key × V)} (h : H d = some (.dK kvs)) (e : Same (upd H d (.frz od (.dK kvs))) H') : Same H (upd H' d (.dK kvs)) := fun a o q => by
  by_cases z : a = d
  · subst z
    rw [h] at q
    cases q
    exact upd_same
  · rw [upd_ne z]
    refine e a o ?_
    rw [upd_ne z]
    exact q
theorem lock_free {H : Hp} {d a : Addr} {od : Obj} {kvs : List (Key × V)} (h : upd H d (.frz od (.dK kvs)) a = none) : H a = none ∧ a ≠ d := by
  by_cases z : a = d
  · subst z
    rw [upd_same] at h
    cases h
  · rw [upd_ne z] at h
    exact ⟨h, z⟩
end SP

set_option Elab.async false
set_option linter.all false
set_option maxRecDepth 100000
set_option maxHeartbeats 4000000
/-! The shapes of the classes; readings and what they ask. -/
namespace SP
open PySem PySem.Spec PyProof.Rows L2

/-! ### readings, one step at a time -/
def rFld (K : PySem.W.Frag) (f : Str) : V → Hp → VK → Prop := fun x H1 Q => ∃ a C dx fs v, x = .ref a ∧ H1 a = some (.ins C dx fs) ∧ Cls K C ∧ NoAttr K C f ∧ fs.lookup f = some v ∧ Q v H1
def rSet1 (K : PySem.W.Frag) (f : Str) (y x : V) (H2 : Hp) (q : Hp → Prop) : Prop := ∃ a C dx fs, x = .ref a ∧ H2 a = some (.ins C dx fs) ∧ Cls K C ∧ NoAttr K C f ∧ fs.length < 1000 ∧ q (upd H2 a (.ins C dx (putF f y fs)))
def rMeth (C : Addr) (m : Str) (sp : Sp) (W : WX) (t : TA) (σ : L2.St) : V → Hp → VK → Prop := fun x H1 Q => ∃ a dx fs, x = .ref a ∧ H1 a = some (.ins C dx fs) ∧ fs.lookup m = none ∧ t σ H1 fun vs H2 => sp (x :: vs) H2 Q fun c d H3 => W c d σ H3
section
variable {K : PySem.W.Frag} {σ : L2.St} {H : Hp} {Q : VK} {q2 : Hp → Prop}
def fDisk (v0 v1 : V) : List (Str × V) := [("blocks", v0), ("log", v1)]
theorem lk_Disk_blocks (v0 v1 : V) : (fDisk v0 v1).lookup ("blocks" : Str) = some v0 := rfl
theorem pf_Disk_blocks (v0 v1 y : V) : putF ("blocks" : Str) y (fDisk v0 v1) = fDisk y v1 := rfl
theorem lk_Disk_log (v0 v1 : V) : (fDisk v0 v1).lookup ("log" : Str) = some v1 := rfl
theorem pf_Disk_log (v0 v1 y : V) : putF ("log" : Str) y (fDisk v0 v1) = fDisk v0 y := rfl
theorem no_Disk_read (v0 v1 : V) : (fDisk v0 v1).lookup ("read" : Str) = none := rfl
theorem no_Disk_write (v0 v1 : V) : (fDisk v0 v1).lookup ("write" : Str) = none := rfl
theorem no_Disk_barrier (v0 v1 : V) : (fDisk v0 v1).lookup ("barrier" : Str) = none := rfl
structure PxDisk (K : PySem.W.Frag) : Prop where
  c : Cls K (He.ga K "Disk")
  n_blocks : NoAttr K (He.ga K "Disk") "blocks"
  n_log : NoAttr K (He.ga K "Disk") "log"
abbrev oDisk (K : PySem.W.Frag) (dx : Addr) (v0 v1 : V) : HO := .ins (He.ga K "Disk") dx (fDisk v0 v1)
theorem x_get_Disk_blocks {v0 v1 : V} {p dx : Addr} (T : PxDisk K) (ho : H p = some (oDisk K dx v0 v1)) (q : Q v0 H) : rFld K "blocks" (.ref p) H Q :=
  ⟨p, _, dx, _, _, rfl, ho, T.c, T.n_blocks, lk_Disk_blocks .., q⟩
theorem x_set_Disk_blocks {v0 v1 y : V} {p dx : Addr} (T : PxDisk K) (ho : H p = some (oDisk K dx v0 v1)) (q : q2 (upd H p (oDisk K dx y v1))) : rSet1 K "blocks" y (.ref p) H q2 :=
  ⟨p, _, dx, _, rfl, ho, T.c, T.n_blocks, by show 2 < 1000; decide, q⟩
theorem x_get_Disk_log {v0 v1 : V} {p dx : Addr} (T : PxDisk K) (ho : H p = some (oDisk K dx v0 v1)) (q : Q v1 H) : rFld K "log" (.ref p) H Q :=
  ⟨p, _, dx, _, _, rfl, ho, T.c, T.n_log, lk_Disk_log .., q⟩
theorem x_set_Disk_log {v0 v1 y : V} {p dx : Addr} (T : PxDisk K) (ho : H p = some (oDisk K dx v0 v1)) (q : q2 (upd H p (oDisk K dx v0 y))) : rSet1 K "log" y (.ref p) H q2 :=
  ⟨p, _, dx, _, rfl, ho, T.c, T.n_log, by show 2 < 1000; decide, q⟩
theorem i_set_Disk_blocks {y : V} {p dx : Addr} (T : PxDisk K) (ho : H p = some (.ins (He.ga K "Disk") dx [])) (q : q2 (upd H p (.ins (He.ga K "Disk") dx [("blocks", y)]))) : rSet1 K "blocks" y (.ref p) H q2 :=
  ⟨p, _, dx, _, rfl, ho, T.c, T.n_blocks, by show 0 < 1000; decide, q⟩
theorem i_set_Disk_log {v0 y : V} {p dx : Addr} (T : PxDisk K) (ho : H p = some (.ins (He.ga K "Disk") dx [("blocks", v0)])) (q : q2 (upd H p (.ins (He.ga K "Disk") dx [("blocks", v0), ("log", y)]))) : rSet1 K "log" y (.ref p) H q2 :=
  ⟨p, _, dx, _, rfl, ho, T.c, T.n_log, by show 1 < 1000; decide, q⟩
theorem x_meth_Disk_read {v0 v1 : V} {p dx : Addr} {sp : Sp} {W : WX} {t : TA} (ho : H p = some (oDisk K dx v0 v1)) (q : t σ H fun vs H2 => sp (.ref p :: vs) H2 Q fun c d H3 => W c d σ H3) : rMeth (He.ga K "Disk") "read" sp W t σ (.ref p) H Q :=
  ⟨p, dx, _, rfl, ho, no_Disk_read .., q⟩
theorem x_meth_Disk_write {v0 v1 : V} {p dx : Addr} {sp : Sp} {W : WX} {t : TA} (ho : H p = some (oDisk K dx v0 v1)) (q : t σ H fun vs H2 => sp (.ref p :: vs) H2 Q fun c d H3 => W c d σ H3) : rMeth (He.ga K "Disk") "write" sp W t σ (.ref p) H Q :=
  ⟨p, dx, _, rfl, ho, no_Disk_write .., q⟩
theorem x_meth_Disk_barrier {v0 v1 : V} {p dx : Addr} {sp : Sp} {W : WX} {t : TA} (ho : H p = some (oDisk K dx v0 v1)) (q : t σ H fun vs H2 => sp (.ref p :: vs) H2 Q fun c d H3 => W c d σ H3) : rMeth (He.ga K "Disk") "barrier" sp W t σ (.ref p) H Q :=
  ⟨p, dx, _, rfl, ho, no_Disk_barrier .., q⟩
def fThing (v0 v1 v2 : V) : List (Str × V) := [("kind", v0), ("held", v1), ("entries", v2)]
theorem lk_Thing_kind (v0 v1 v2 : V) : (fThing v0 v1 v2).lookup ("kind" : Str) = some v0 := rfl
theorem pf_Thing_kind (v0 v1 v2 y : V) : putF ("kind" : Str) y (fThing v0 v1 v2) = fThing y v1 v2 := rfl
theorem lk_Thing_held (v0 v1 v2 : V) : (fThing v0 v1 v2).lookup ("held" : Str) = some v1 := rfl
theorem pf_Thing_held (v0 v1 v2 y : V) : putF ("held" : Str) y (fThing v0 v1 v2) = fThing v0 y v2 := rfl
theorem lk_Thing_entries (v0 v1 v2 : V) : (fThing v0 v1 v2).lookup ("entries" : Str) = some v2 := rfl
theorem pf_Thing_entries (v0 v1 v2 y : V) : putF ("entries" : Str) y (fThing v0 v1 v2) = fThing v0 v1 y := rfl
structure PxThing (K : PySem.W.Frag) : Prop where
  c : Cls K (He.ga K "Thing")
  n_kind : NoAttr K (He.ga K "Thing") "kind"
  n_held : NoAttr K (He.ga K "Thing") "held"
  n_entries : NoAttr K (He.ga K "Thing") "entries"
abbrev oThing (K : PySem.W.Frag) (dx : Addr) (v0 v1 v2 : V) : HO := .ins (He.ga K "Thing") dx (fThing v0 v1 v2)
theorem x_get_Thing_kind {v0 v1 v2 : V} {p dx : Addr} (T : PxThing K) (ho : H p = some (oThing K dx v0 v1 v2)) (q : Q v0 H) : rFld K "kind" (.ref p) H Q :=
  ⟨p, _, dx, _, _, rfl, ho, T.c, T.n_kind, lk_Thing_kind .., q⟩
theorem x_set_Thing_kind {v0 v1 v2 y : V} {p dx : Addr} (T : PxThing K) (ho : H p = some (oThing K dx v0 v1 v2)) (q : q2 (upd H p (oThing K dx y v1 v2))) : rSet1 K "kind" y (.ref p) H q2 :=
  ⟨p, _, dx, _, rfl, ho, T.c, T.n_kind, by show 3 < 1000; decide, q⟩
theorem x_get_Thing_held {v0 v1 v2 : V} {p dx : Addr} (T : PxThing K) (ho : H p = some (oThing K dx v0 v1 v2)) (q : Q v1 H) : rFld K "held" (.ref p) H Q :=
  ⟨p, _, dx, _, _, rfl, ho, T.c, T.n_held, lk_Thing_held .., q⟩
theorem x_set_Thing_held {v0 v1 v2 y : V} {p dx : Addr} (T : PxThing K) (ho : H p = some (oThing K dx v0 v1 v2)) (q : q2 (upd H p (oThing K dx v0 y v2))) : rSet1 K "held" y (.ref p) H q2 :=
  ⟨p, _, dx, _, rfl, ho, T.c, T.n_held, by show 3 < 1000; decide, q⟩
theorem x_get_Thing_entries {v0 v1 v2 : V} {p dx : Addr} (T : PxThing K) (ho : H p = some (oThing K dx v0 v1 v2)) (q : Q v2 H) : rFld K "entries" (.ref p) H Q :=
  ⟨p, _, dx, _, _, rfl, ho, T.c, T.n_entries, lk_Thing_entries .., q⟩
theorem x_set_Thing_entries {v0 v1 v2 y : V} {p dx : Addr} (T : PxThing K) (ho : H p = some (oThing K dx v0 v1 v2)) (q : q2 (upd H p (oThing K dx v0 v1 y))) : rSet1 K "entries" y (.ref p) H q2 :=
  ⟨p, _, dx, _, rfl, ho, T.c, T.n_entries, by show 3 < 1000; decide, q⟩
theorem i_set_Thing_kind {y : V} {p dx : Addr} (T : PxThing K) (ho : H p = some (.ins (He.ga K "Thing") dx [])) (q : q2 (upd H p (.ins (He.ga K "Thing") dx [("kind", y)]))) : rSet1 K "kind" y (.ref p) H q2 :=
  ⟨p, _, dx, _, rfl, ho, T.c, T.n_kind, by show 0 < 1000; decide, q⟩
theorem i_set_Thing_held {v0 y : V} {p dx : Addr} (T : PxThing K) (ho : H p = some (.ins (He.ga K "Thing") dx [("kind", v0)])) (q : q2 (upd H p (.ins (He.ga K "Thing") dx [("kind", v0), ("held", y)]))) : rSet1 K "held" y (.ref p) H q2 :=
  ⟨p, _, dx, _, rfl, ho, T.c, T.n_held, by show 1 < 1000; decide, q⟩
theorem i_set_Thing_entries {v0 v1 y : V} {p dx : Addr} (T : PxThing K) (ho : H p = some (.ins (He.ga K "Thing") dx [("kind", v0), ("held", v1)])) (q : q2 (upd H p (.ins (He.ga K "Thing") dx [("kind", v0), ("held", v1), ("entries", y)]))) : rSet1 K "entries" y (.ref p) H q2 :=
  ⟨p, _, dx, _, rfl, ho, T.c, T.n_entries, by show 2 < 1000; decide, q⟩
def fReader (v0 v1 v2 : V) : List (Str × V) := [("row", v0), ("at", v1), ("good", v2)]
theorem lk_Reader_row (v0 v1 v2 : V) : (fReader v0 v1 v2).lookup ("row" : Str) = some v0 := rfl
theorem pf_Reader_row (v0 v1 v2 y : V) : putF ("row" : Str) y (fReader v0 v1 v2) = fReader y v1 v2 := rfl
theorem lk_Reader_at (v0 v1 v2 : V) : (fReader v0 v1 v2).lookup ("at" : Str) = some v1 := rfl
theorem pf_Reader_at (v0 v1 v2 y : V) : putF ("at" : Str) y (fReader v0 v1 v2) = fReader v0 y v2 := rfl
theorem lk_Reader_good (v0 v1 v2 : V) : (fReader v0 v1 v2).lookup ("good" : Str) = some v2 := rfl
theorem pf_Reader_good (v0 v1 v2 y : V) : putF ("good" : Str) y (fReader v0 v1 v2) = fReader v0 v1 y := rfl
theorem no_Reader_byte (v0 v1 v2 : V) : (fReader v0 v1 v2).lookup ("byte" : Str) = none := rfl
theorem no_Reader_text (v0 v1 v2 : V) : (fReader v0 v1 v2).lookup ("text" : Str) = none := rfl
theorem no_Reader_file_bytes (v0 v1 v2 : V) : (fReader v0 v1 v2).lookup ("file_bytes" : Str) = none := rfl
theorem no_Reader_dir_entries (v0 v1 v2 : V) : (fReader v0 v1 v2).lookup ("dir_entries" : Str) = none := rfl
theorem no_Reader_whole_state (v0 v1 v2 : V) : (fReader v0 v1 v2).lookup ("whole_state" : Str) = none := rfl
structure PxReader (K : PySem.W.Frag) : Prop where
  c : Cls K (He.ga K "Reader")
  n_row : NoAttr K (He.ga K "Reader") "row"
  n_at : NoAttr K (He.ga K "Reader") "at"
  n_good : NoAttr K (He.ga K "Reader") "good"
abbrev oReader (K : PySem.W.Frag) (dx : Addr) (v0 v1 v2 : V) : HO := .ins (He.ga K "Reader") dx (fReader v0 v1 v2)
theorem x_get_Reader_row {v0 v1 v2 : V} {p dx : Addr} (T : PxReader K) (ho : H p = some (oReader K dx v0 v1 v2)) (q : Q v0 H) : rFld K "row" (.ref p) H Q :=
  ⟨p, _, dx, _, _, rfl, ho, T.c, T.n_row, lk_Reader_row .., q⟩
theorem x_set_Reader_row {v0 v1 v2 y : V} {p dx : Addr} (T : PxReader K) (ho : H p = some (oReader K dx v0 v1 v2)) (q : q2 (upd H p (oReader K dx y v1 v2))) : rSet1 K "row" y (.ref p) H q2 :=
  ⟨p, _, dx, _, rfl, ho, T.c, T.n_row, by show 3 < 1000; decide, q⟩
theorem x_get_Reader_at {v0 v1 v2 : V} {p dx : Addr} (T : PxReader K) (ho : H p = some (oReader K dx v0 v1 v2)) (q : Q v1 H) : rFld K "at" (.ref p) H Q :=
  ⟨p, _, dx, _, _, rfl, ho, T.c, T.n_at, lk_Reader_at .., q⟩
theorem x_set_Reader_at {v0 v1 v2 y : V} {p dx : Addr} (T : PxReader K) (ho : H p = some (oReader K dx v0 v1 v2)) (q : q2 (upd H p (oReader K dx v0 y v2))) : rSet1 K "at" y (.ref p) H q2 :=
  ⟨p, _, dx, _, rfl, ho, T.c, T.n_at, by show 3 < 1000; decide, q⟩
theorem x_get_Reader_good {v0 v1 v2 : V} {p dx : Addr} (T : PxReader K) (ho : H p = some (oReader K dx v0 v1 v2)) (q : Q v2 H) : rFld K "good" (.ref p) H Q :=
  ⟨p, _, dx, _, _, rfl, ho, T.c, T.n_good, lk_Reader_good .., q⟩
theorem x_set_Reader_good {v0 v1 v2 y : V} {p dx : Addr} (T : PxReader K) (ho : H p = some (oReader K dx v0 v1 v2)) (q : q2 (upd H p (oReader K dx v0 v1 y))) : rSet1 K "good" y (.ref p) H q2 :=
  ⟨p, _, dx, _, rfl, ho, T.c, T.n_good, by show 3 < 1000; decide, q⟩
theorem i_set_Reader_row {y : V} {p dx : Addr} (T : PxReader K) (ho : H p = some (.ins (He.ga K "Reader") dx [])) (q : q2 (upd H p (.ins (He.ga K "Reader") dx [("row", y)]))) : rSet1 K "row" y (.ref p) H q2 :=
  ⟨p, _, dx, _, rfl, ho, T.c, T.n_row, by show 0 < 1000; decide, q⟩
theorem i_set_Reader_at {v0 y : V} {p dx : Addr} (T : PxReader K) (ho : H p = some (.ins (He.ga K "Reader") dx [("row", v0)])) (q : q2 (upd H p (.ins (He.ga K "Reader") dx [("row", v0), ("at", y)]))) : rSet1 K "at" y (.ref p) H q2 :=
  ⟨p, _, dx, _, rfl, ho, T.c, T.n_at, by show 1 < 1000; decide, q⟩
theorem i_set_Reader_good {v0 v1 y : V} {p dx : Addr} (T : PxReader K) (ho : H p = some (.ins (He.ga K "Reader") dx [("row", v0), ("at", v1)])) (q : q2 (upd H p (.ins (He.ga K "Reader") dx [("row", v0), ("at", v1), ("good", y)]))) : rSet1 K "good" y (.ref p) H q2 :=
  ⟨p, _, dx, _, rfl, ho, T.c, T.n_good, by show 2 < 1000; decide, q⟩
theorem x_meth_Reader_byte {v0 v1 v2 : V} {p dx : Addr} {sp : Sp} {W : WX} {t : TA} (ho : H p = some (oReader K dx v0 v1 v2)) (q : t σ H fun vs H2 => sp (.ref p :: vs) H2 Q fun c d H3 => W c d σ H3) : rMeth (He.ga K "Reader") "byte" sp W t σ (.ref p) H Q :=
  ⟨p, dx, _, rfl, ho, no_Reader_byte .., q⟩
theorem x_meth_Reader_text {v0 v1 v2 : V} {p dx : Addr} {sp : Sp} {W : WX} {t : TA} (ho : H p = some (oReader K dx v0 v1 v2)) (q : t σ H fun vs H2 => sp (.ref p :: vs) H2 Q fun c d H3 => W c d σ H3) : rMeth (He.ga K "Reader") "text" sp W t σ (.ref p) H Q :=
  ⟨p, dx, _, rfl, ho, no_Reader_text .., q⟩
theorem x_meth_Reader_file_bytes {v0 v1 v2 : V} {p dx : Addr} {sp : Sp} {W : WX} {t : TA} (ho : H p = some (oReader K dx v0 v1 v2)) (q : t σ H fun vs H2 => sp (.ref p :: vs) H2 Q fun c d H3 => W c d σ H3) : rMeth (He.ga K "Reader") "file_bytes" sp W t σ (.ref p) H Q :=
  ⟨p, dx, _, rfl, ho, no_Reader_file_bytes .., q⟩
theorem x_meth_Reader_dir_entries {v0 v1 v2 : V} {p dx : Addr} {sp : Sp} {W : WX} {t : TA} (ho : H p = some (oReader K dx v0 v1 v2)) (q : t σ H fun vs H2 => sp (.ref p :: vs) H2 Q fun c d H3 => W c d σ H3) : rMeth (He.ga K "Reader") "dir_entries" sp W t σ (.ref p) H Q :=
  ⟨p, dx, _, rfl, ho, no_Reader_dir_entries .., q⟩
theorem x_meth_Reader_whole_state {v0 v1 v2 : V} {p dx : Addr} {sp : Sp} {W : WX} {t : TA} (ho : H p = some (oReader K dx v0 v1 v2)) (q : t σ H fun vs H2 => sp (.ref p :: vs) H2 Q fun c d H3 => W c d σ H3) : rMeth (He.ga K "Reader") "whole_state" sp W t σ (.ref p) H Q :=
  ⟨p, dx, _, rfl, ho, no_Reader_whole_state .., q⟩
def fFiles (v0 v1 v2 v3 v4 v5 v6 : V) : List (Str × V) := [("disk", v0), ("state", v1), ("kept", v2), ("slot", v3), ("turn", v4), ("used", v5), ("is_new", v6)]
theorem lk_Files_disk (v0 v1 v2 v3 v4 v5 v6 : V) : (fFiles v0 v1 v2 v3 v4 v5 v6).lookup ("disk" : Str) = some v0 := rfl
theorem pf_Files_disk (v0 v1 v2 v3 v4 v5 v6 y : V) : putF ("disk" : Str) y (fFiles v0 v1 v2 v3 v4 v5 v6) = fFiles y v1 v2 v3 v4 v5 v6 := rfl
theorem lk_Files_state (v0 v1 v2 v3 v4 v5 v6 : V) : (fFiles v0 v1 v2 v3 v4 v5 v6).lookup ("state" : Str) = some v1 := rfl
theorem pf_Files_state (v0 v1 v2 v3 v4 v5 v6 y : V) : putF ("state" : Str) y (fFiles v0 v1 v2 v3 v4 v5 v6) = fFiles v0 y v2 v3 v4 v5 v6 := rfl
theorem lk_Files_kept (v0 v1 v2 v3 v4 v5 v6 : V) : (fFiles v0 v1 v2 v3 v4 v5 v6).lookup ("kept" : Str) = some v2 := rfl
theorem pf_Files_kept (v0 v1 v2 v3 v4 v5 v6 y : V) : putF ("kept" : Str) y (fFiles v0 v1 v2 v3 v4 v5 v6) = fFiles v0 v1 y v3 v4 v5 v6 := rfl
theorem lk_Files_slot (v0 v1 v2 v3 v4 v5 v6 : V) : (fFiles v0 v1 v2 v3 v4 v5 v6).lookup ("slot" : Str) = some v3 := rfl
theorem pf_Files_slot (v0 v1 v2 v3 v4 v5 v6 y : V) : putF ("slot" : Str) y (fFiles v0 v1 v2 v3 v4 v5 v6) = fFiles v0 v1 v2 y v4 v5 v6 := rfl
theorem lk_Files_turn (v0 v1 v2 v3 v4 v5 v6 : V) : (fFiles v0 v1 v2 v3 v4 v5 v6).lookup ("turn" : Str) = some v4 := rfl
theorem pf_Files_turn (v0 v1 v2 v3 v4 v5 v6 y : V) : putF ("turn" : Str) y (fFiles v0 v1 v2 v3 v4 v5 v6) = fFiles v0 v1 v2 v3 y v5 v6 := rfl
theorem lk_Files_used (v0 v1 v2 v3 v4 v5 v6 : V) : (fFiles v0 v1 v2 v3 v4 v5 v6).lookup ("used" : Str) = some v5 := rfl
theorem pf_Files_used (v0 v1 v2 v3 v4 v5 v6 y : V) : putF ("used" : Str) y (fFiles v0 v1 v2 v3 v4 v5 v6) = fFiles v0 v1 v2 v3 v4 y v6 := rfl
theorem lk_Files_is_new (v0 v1 v2 v3 v4 v5 v6 : V) : (fFiles v0 v1 v2 v3 v4 v5 v6).lookup ("is_new" : Str) = some v6 := rfl
theorem pf_Files_is_new (v0 v1 v2 v3 v4 v5 v6 y : V) : putF ("is_new" : Str) y (fFiles v0 v1 v2 v3 v4 v5 v6) = fFiles v0 v1 v2 v3 v4 v5 y := rfl
theorem no_Files_may_write (v0 v1 v2 v3 v4 v5 v6 : V) : (fFiles v0 v1 v2 v3 v4 v5 v6).lookup ("may_write" : Str) = none := rfl
theorem no_Files_become (v0 v1 v2 v3 v4 v5 v6 : V) : (fFiles v0 v1 v2 v3 v4 v5 v6).lookup ("become" : Str) = none := rfl
theorem no_Files_file_at (v0 v1 v2 v3 v4 v5 v6 : V) : (fFiles v0 v1 v2 v3 v4 v5 v6).lookup ("file_at" : Str) = none := rfl
theorem no_Files_find (v0 v1 v2 v3 v4 v5 v6 : V) : (fFiles v0 v1 v2 v3 v4 v5 v6).lookup ("find" : Str) = none := rfl
theorem no_Files_place_for (v0 v1 v2 v3 v4 v5 v6 : V) : (fFiles v0 v1 v2 v3 v4 v5 v6).lookup ("place_for" : Str) = none := rfl
theorem no_Files_make (v0 v1 v2 v3 v4 v5 v6 : V) : (fFiles v0 v1 v2 v3 v4 v5 v6).lookup ("make" : Str) = none := rfl
theorem no_Files_link (v0 v1 v2 v3 v4 v5 v6 : V) : (fFiles v0 v1 v2 v3 v4 v5 v6).lookup ("link" : Str) = none := rfl
theorem no_Files_unlink (v0 v1 v2 v3 v4 v5 v6 : V) : (fFiles v0 v1 v2 v3 v4 v5 v6).lookup ("unlink" : Str) = none := rfl
theorem no_Files_may_replace (v0 v1 v2 v3 v4 v5 v6 : V) : (fFiles v0 v1 v2 v3 v4 v5 v6).lookup ("may_replace" : Str) = none := rfl
theorem no_Files_rename (v0 v1 v2 v3 v4 v5 v6 : V) : (fFiles v0 v1 v2 v3 v4 v5 v6).lookup ("rename" : Str) = none := rfl
theorem no_Files_read (v0 v1 v2 v3 v4 v5 v6 : V) : (fFiles v0 v1 v2 v3 v4 v5 v6).lookup ("read" : Str) = none := rfl
theorem no_Files_write (v0 v1 v2 v3 v4 v5 v6 : V) : (fFiles v0 v1 v2 v3 v4 v5 v6).lookup ("write" : Str) = none := rfl
theorem no_Files_cut (v0 v1 v2 v3 v4 v5 v6 : V) : (fFiles v0 v1 v2 v3 v4 v5 v6).lookup ("cut" : Str) = none := rfl
theorem no_Files_stat (v0 v1 v2 v3 v4 v5 v6 : V) : (fFiles v0 v1 v2 v3 v4 v5 v6).lookup ("stat" : Str) = none := rfl
theorem no_Files_names (v0 v1 v2 v3 v4 v5 v6 : V) : (fFiles v0 v1 v2 v3 v4 v5 v6).lookup ("names" : Str) = none := rfl
theorem no_Files_sync (v0 v1 v2 v3 v4 v5 v6 : V) : (fFiles v0 v1 v2 v3 v4 v5 v6).lookup ("sync" : Str) = none := rfl
theorem no_Files_write_all (v0 v1 v2 v3 v4 v5 v6 : V) : (fFiles v0 v1 v2 v3 v4 v5 v6).lookup ("write_all" : Str) = none := rfl
theorem no_Files_snap (v0 v1 v2 v3 v4 v5 v6 : V) : (fFiles v0 v1 v2 v3 v4 v5 v6).lookup ("snap" : Str) = none := rfl
theorem no_Files_need_snap (v0 v1 v2 v3 v4 v5 v6 : V) : (fFiles v0 v1 v2 v3 v4 v5 v6).lookup ("need_snap" : Str) = none := rfl
theorem no_Files_unsnap (v0 v1 v2 v3 v4 v5 v6 : V) : (fFiles v0 v1 v2 v3 v4 v5 v6).lookup ("unsnap" : Str) = none := rfl
theorem no_Files_see (v0 v1 v2 v3 v4 v5 v6 : V) : (fFiles v0 v1 v2 v3 v4 v5 v6).lookup ("see" : Str) = none := rfl
theorem no_Files_snaps (v0 v1 v2 v3 v4 v5 v6 : V) : (fFiles v0 v1 v2 v3 v4 v5 v6).lookup ("snaps" : Str) = none := rfl
structure PxFiles (K : PySem.W.Frag) : Prop where
  c : Cls K (He.ga K "Files")
  n_disk : NoAttr K (He.ga K "Files") "disk"
  n_state : NoAttr K (He.ga K "Files") "state"
  n_kept : NoAttr K (He.ga K "Files") "kept"
  n_slot : NoAttr K (He.ga K "Files") "slot"
  n_turn : NoAttr K (He.ga K "Files") "turn"
  n_used : NoAttr K (He.ga K "Files") "used"
  n_is_new : NoAttr K (He.ga K "Files") "is_new"
abbrev oFiles (K : PySem.W.Frag) (dx : Addr) (v0 v1 v2 v3 v4 v5 v6 : V) : HO := .ins (He.ga K "Files") dx (fFiles v0 v1 v2 v3 v4 v5 v6)
theorem x_get_Files_disk {v0 v1 v2 v3 v4 v5 v6 : V} {p dx : Addr} (T : PxFiles K) (ho : H p = some (oFiles K dx v0 v1 v2 v3 v4 v5 v6)) (q : Q v0 H) : rFld K "disk" (.ref p) H Q :=
  ⟨p, _, dx, _, _, rfl, ho, T.c, T.n_disk, lk_Files_disk .., q⟩
theorem x_set_Files_disk {v0 v1 v2 v3 v4 v5 v6 y : V} {p dx : Addr} (T : PxFiles K) (ho : H p = some (oFiles K dx v0 v1 v2 v3 v4 v5 v6)) (q : q2 (upd H p (oFiles K dx y v1 v2 v3 v4 v5 v6))) : rSet1 K "disk" y (.ref p) H q2 :=
  ⟨p, _, dx, _, rfl, ho, T.c, T.n_disk, by show 7 < 1000; decide, q⟩
theorem x_get_Files_state {v0 v1 v2 v3 v4 v5 v6 : V} {p dx : Addr} (T : PxFiles K) (ho : H p = some (oFiles K dx v0 v1 v2 v3 v4 v5 v6)) (q : Q v1 H) : rFld K "state" (.ref p) H Q :=
  ⟨p, _, dx, _, _, rfl, ho, T.c, T.n_state, lk_Files_state .., q⟩
theorem x_set_Files_state {v0 v1 v2 v3 v4 v5 v6 y : V} {p dx : Addr} (T : PxFiles K) (ho : H p = some (oFiles K dx v0 v1 v2 v3 v4 v5 v6)) (q : q2 (upd H p (oFiles K dx v0 y v2 v3 v4 v5 v6))) : rSet1 K "state" y (.ref p) H q2 :=
  ⟨p, _, dx, _, rfl, ho, T.c, T.n_state, by show 7 < 1000; decide, q⟩
theorem x_get_Files_kept {v0 v1 v2 v3 v4 v5 v6 : V} {p dx : Addr} (T : PxFiles K) (ho : H p = some (oFiles K dx v0 v1 v2 v3 v4 v5 v6)) (q : Q v2 H) : rFld K "kept" (.ref p) H Q :=
  ⟨p, _, dx, _, _, rfl, ho, T.c, T.n_kept, lk_Files_kept .., q⟩
theorem x_set_Files_kept {v0 v1 v2 v3 v4 v5 v6 y : V} {p dx : Addr} (T : PxFiles K) (ho : H p = some (oFiles K dx v0 v1 v2 v3 v4 v5 v6)) (q : q2 (upd H p (oFiles K dx v0 v1 y v3 v4 v5 v6))) : rSet1 K "kept" y (.ref p) H q2 :=
  ⟨p, _, dx, _, rfl, ho, T.c, T.n_kept, by show 7 < 1000; decide, q⟩
theorem x_get_Files_slot {v0 v1 v2 v3 v4 v5 v6 : V} {p dx : Addr} (T : PxFiles K) (ho : H p = some (oFiles K dx v0 v1 v2 v3 v4 v5 v6)) (q : Q v3 H) : rFld K "slot" (.ref p) H Q :=
  ⟨p, _, dx, _, _, rfl, ho, T.c, T.n_slot, lk_Files_slot .., q⟩
theorem x_set_Files_slot {v0 v1 v2 v3 v4 v5 v6 y : V} {p dx : Addr} (T : PxFiles K) (ho : H p = some (oFiles K dx v0 v1 v2 v3 v4 v5 v6)) (q : q2 (upd H p (oFiles K dx v0 v1 v2 y v4 v5 v6))) : rSet1 K "slot" y (.ref p) H q2 :=
  ⟨p, _, dx, _, rfl, ho, T.c, T.n_slot, by show 7 < 1000; decide, q⟩
theorem x_get_Files_turn {v0 v1 v2 v3 v4 v5 v6 : V} {p dx : Addr} (T : PxFiles K) (ho : H p = some (oFiles K dx v0 v1 v2 v3 v4 v5 v6)) (q : Q v4 H) : rFld K "turn" (.ref p) H Q :=
  ⟨p, _, dx, _, _, rfl, ho, T.c, T.n_turn, lk_Files_turn .., q⟩
theorem x_set_Files_turn {v0 v1 v2 v3 v4 v5 v6 y : V} {p dx : Addr} (T : PxFiles K) (ho : H p = some (oFiles K dx v0 v1 v2 v3 v4 v5 v6)) (q : q2 (upd H p (oFiles K dx v0 v1 v2 v3 y v5 v6))) : rSet1 K "turn" y (.ref p) H q2 :=
  ⟨p, _, dx, _, rfl, ho, T.c, T.n_turn, by show 7 < 1000; decide, q⟩
theorem x_get_Files_used {v0 v1 v2 v3 v4 v5 v6 : V} {p dx : Addr} (T : PxFiles K) (ho : H p = some (oFiles K dx v0 v1 v2 v3 v4 v5 v6)) (q : Q v5 H) : rFld K "used" (.ref p) H Q :=
  ⟨p, _, dx, _, _, rfl, ho, T.c, T.n_used, lk_Files_used .., q⟩
theorem x_set_Files_used {v0 v1 v2 v3 v4 v5 v6 y : V} {p dx : Addr} (T : PxFiles K) (ho : H p = some (oFiles K dx v0 v1 v2 v3 v4 v5 v6)) (q : q2 (upd H p (oFiles K dx v0 v1 v2 v3 v4 y v6))) : rSet1 K "used" y (.ref p) H q2 :=
  ⟨p, _, dx, _, rfl, ho, T.c, T.n_used, by show 7 < 1000; decide, q⟩
theorem x_get_Files_is_new {v0 v1 v2 v3 v4 v5 v6 : V} {p dx : Addr} (T : PxFiles K) (ho : H p = some (oFiles K dx v0 v1 v2 v3 v4 v5 v6)) (q : Q v6 H) : rFld K "is_new" (.ref p) H Q :=
  ⟨p, _, dx, _, _, rfl, ho, T.c, T.n_is_new, lk_Files_is_new .., q⟩
theorem x_set_Files_is_new {v0 v1 v2 v3 v4 v5 v6 y : V} {p dx : Addr} (T : PxFiles K) (ho : H p = some (oFiles K dx v0 v1 v2 v3 v4 v5 v6)) (q : q2 (upd H p (oFiles K dx v0 v1 v2 v3 v4 v5 y))) : rSet1 K "is_new" y (.ref p) H q2 :=
  ⟨p, _, dx, _, rfl, ho, T.c, T.n_is_new, by show 7 < 1000; decide, q⟩
theorem i_set_Files_disk {y : V} {p dx : Addr} (T : PxFiles K) (ho : H p = some (.ins (He.ga K "Files") dx [])) (q : q2 (upd H p (.ins (He.ga K "Files") dx [("disk", y)]))) : rSet1 K "disk" y (.ref p) H q2 :=
  ⟨p, _, dx, _, rfl, ho, T.c, T.n_disk, by show 0 < 1000; decide, q⟩
theorem i_set_Files_state {v0 y : V} {p dx : Addr} (T : PxFiles K) (ho : H p = some (.ins (He.ga K "Files") dx [("disk", v0)])) (q : q2 (upd H p (.ins (He.ga K "Files") dx [("disk", v0), ("state", y)]))) : rSet1 K "state" y (.ref p) H q2 :=
  ⟨p, _, dx, _, rfl, ho, T.c, T.n_state, by show 1 < 1000; decide, q⟩
theorem i_set_Files_kept {v0 v1 y : V} {p dx : Addr} (T : PxFiles K) (ho : H p = some (.ins (He.ga K "Files") dx [("disk", v0), ("state", v1)])) (q : q2 (upd H p (.ins (He.ga K "Files") dx [("disk", v0), ("state", v1), ("kept", y)]))) : rSet1 K "kept" y (.ref p) H q2 :=
  ⟨p, _, dx, _, rfl, ho, T.c, T.n_kept, by show 2 < 1000; decide, q⟩
theorem i_set_Files_slot {v0 v1 v2 y : V} {p dx : Addr} (T : PxFiles K) (ho : H p = some (.ins (He.ga K "Files") dx [("disk", v0), ("state", v1), ("kept", v2)])) (q : q2 (upd H p (.ins (He.ga K "Files") dx [("disk", v0), ("state", v1), ("kept", v2), ("slot", y)]))) : rSet1 K "slot" y (.ref p) H q2 :=
  ⟨p, _, dx, _, rfl, ho, T.c, T.n_slot, by show 3 < 1000; decide, q⟩
theorem i_set_Files_turn {v0 v1 v2 v3 y : V} {p dx : Addr} (T : PxFiles K) (ho : H p = some (.ins (He.ga K "Files") dx [("disk", v0), ("state", v1), ("kept", v2), ("slot", v3)])) (q : q2 (upd H p (.ins (He.ga K "Files") dx [("disk", v0), ("state", v1), ("kept", v2), ("slot", v3), ("turn", y)]))) : rSet1 K "turn" y (.ref p) H q2 :=
  ⟨p, _, dx, _, rfl, ho, T.c, T.n_turn, by show 4 < 1000; decide, q⟩
theorem i_set_Files_used {v0 v1 v2 v3 v4 y : V} {p dx : Addr} (T : PxFiles K) (ho : H p = some (.ins (He.ga K "Files") dx [("disk", v0), ("state", v1), ("kept", v2), ("slot", v3), ("turn", v4)])) (q : q2 (upd H p (.ins (He.ga K "Files") dx [("disk", v0), ("state", v1), ("kept", v2), ("slot", v3), ("turn", v4), ("used", y)]))) : rSet1 K "used" y (.ref p) H q2 :=
  ⟨p, _, dx, _, rfl, ho, T.c, T.n_used, by show 5 < 1000; decide, q⟩
theorem i_set_Files_is_new {v0 v1 v2 v3 v4 v5 y : V} {p dx : Addr} (T : PxFiles K) (ho : H p = some (.ins (He.ga K "Files") dx [("disk", v0), ("state", v1), ("kept", v2), ("slot", v3), ("turn", v4), ("used", v5)])) (q : q2 (upd H p (.ins (He.ga K "Files") dx [("disk", v0), ("state", v1), ("kept", v2), ("slot", v3), ("turn", v4), ("used", v5), ("is_new", y)]))) : rSet1 K "is_new" y (.ref p) H q2 :=
  ⟨p, _, dx, _, rfl, ho, T.c, T.n_is_new, by show 6 < 1000; decide, q⟩
theorem x_meth_Files_may_write {v0 v1 v2 v3 v4 v5 v6 : V} {p dx : Addr} {sp : Sp} {W : WX} {t : TA} (ho : H p = some (oFiles K dx v0 v1 v2 v3 v4 v5 v6)) (q : t σ H fun vs H2 => sp (.ref p :: vs) H2 Q fun c d H3 => W c d σ H3) : rMeth (He.ga K "Files") "may_write" sp W t σ (.ref p) H Q :=
  ⟨p, dx, _, rfl, ho, no_Files_may_write .., q⟩
theorem x_meth_Files_become {v0 v1 v2 v3 v4 v5 v6 : V} {p dx : Addr} {sp : Sp} {W : WX} {t : TA} (ho : H p = some (oFiles K dx v0 v1 v2 v3 v4 v5 v6)) (q : t σ H fun vs H2 => sp (.ref p :: vs) H2 Q fun c d H3 => W c d σ H3) : rMeth (He.ga K "Files") "become" sp W t σ (.ref p) H Q :=
  ⟨p, dx, _, rfl, ho, no_Files_become .., q⟩
theorem x_meth_Files_file_at {v0 v1 v2 v3 v4 v5 v6 : V} {p dx : Addr} {sp : Sp} {W : WX} {t : TA} (ho : H p = some (oFiles K dx v0 v1 v2 v3 v4 v5 v6)) (q : t σ H fun vs H2 => sp (.ref p :: vs) H2 Q fun c d H3 => W c d σ H3) : rMeth (He.ga K "Files") "file_at" sp W t σ (.ref p) H Q :=
  ⟨p, dx, _, rfl, ho, no_Files_file_at .., q⟩
theorem x_meth_Files_find {v0 v1 v2 v3 v4 v5 v6 : V} {p dx : Addr} {sp : Sp} {W : WX} {t : TA} (ho : H p = some (oFiles K dx v0 v1 v2 v3 v4 v5 v6)) (q : t σ H fun vs H2 => sp (.ref p :: vs) H2 Q fun c d H3 => W c d σ H3) : rMeth (He.ga K "Files") "find" sp W t σ (.ref p) H Q :=
  ⟨p, dx, _, rfl, ho, no_Files_find .., q⟩
theorem x_meth_Files_place_for {v0 v1 v2 v3 v4 v5 v6 : V} {p dx : Addr} {sp : Sp} {W : WX} {t : TA} (ho : H p = some (oFiles K dx v0 v1 v2 v3 v4 v5 v6)) (q : t σ H fun vs H2 => sp (.ref p :: vs) H2 Q fun c d H3 => W c d σ H3) : rMeth (He.ga K "Files") "place_for" sp W t σ (.ref p) H Q :=
  ⟨p, dx, _, rfl, ho, no_Files_place_for .., q⟩
theorem x_meth_Files_make {v0 v1 v2 v3 v4 v5 v6 : V} {p dx : Addr} {sp : Sp} {W : WX} {t : TA} (ho : H p = some (oFiles K dx v0 v1 v2 v3 v4 v5 v6)) (q : t σ H fun vs H2 => sp (.ref p :: vs) H2 Q fun c d H3 => W c d σ H3) : rMeth (He.ga K "Files") "make" sp W t σ (.ref p) H Q :=
  ⟨p, dx, _, rfl, ho, no_Files_make .., q⟩
theorem x_meth_Files_link {v0 v1 v2 v3 v4 v5 v6 : V} {p dx : Addr} {sp : Sp} {W : WX} {t : TA} (ho : H p = some (oFiles K dx v0 v1 v2 v3 v4 v5 v6)) (q : t σ H fun vs H2 => sp (.ref p :: vs) H2 Q fun c d H3 => W c d σ H3) : rMeth (He.ga K "Files") "link" sp W t σ (.ref p) H Q :=
  ⟨p, dx, _, rfl, ho, no_Files_link .., q⟩
theorem x_meth_Files_unlink {v0 v1 v2 v3 v4 v5 v6 : V} {p dx : Addr} {sp : Sp} {W : WX} {t : TA} (ho : H p = some (oFiles K dx v0 v1 v2 v3 v4 v5 v6)) (q : t σ H fun vs H2 => sp (.ref p :: vs) H2 Q fun c d H3 => W c d σ H3) : rMeth (He.ga K "Files") "unlink" sp W t σ (.ref p) H Q :=
  ⟨p, dx, _, rfl, ho, no_Files_unlink .., q⟩
theorem x_meth_Files_may_replace {v0 v1 v2 v3 v4 v5 v6 : V} {p dx : Addr} {sp : Sp} {W : WX} {t : TA} (ho : H p = some (oFiles K dx v0 v1 v2 v3 v4 v5 v6)) (q : t σ H fun vs H2 => sp (.ref p :: vs) H2 Q fun c d H3 => W c d σ H3) : rMeth (He.ga K "Files") "may_replace" sp W t σ (.ref p) H Q :=
  ⟨p, dx, _, rfl, ho, no_Files_may_replace .., q⟩
theorem x_meth_Files_rename {v0 v1 v2 v3 v4 v5 v6 : V} {p dx : Addr} {sp : Sp} {W : WX} {t : TA} (ho : H p = some (oFiles K dx v0 v1 v2 v3 v4 v5 v6)) (q : t σ H fun vs H2 => sp (.ref p :: vs) H2 Q fun c d H3 => W c d σ H3) : rMeth (He.ga K "Files") "rename" sp W t σ (.ref p) H Q :=
  ⟨p, dx, _, rfl, ho, no_Files_rename .., q⟩
theorem x_meth_Files_read {v0 v1 v2 v3 v4 v5 v6 : V} {p dx : Addr} {sp : Sp} {W : WX} {t : TA} (ho : H p = some (oFiles K dx v0 v1 v2 v3 v4 v5 v6)) (q : t σ H fun vs H2 => sp (.ref p :: vs) H2 Q fun c d H3 => W c d σ H3) : rMeth (He.ga K "Files") "read" sp W t σ (.ref p) H Q :=
  ⟨p, dx, _, rfl, ho, no_Files_read .., q⟩
theorem x_meth_Files_write {v0 v1 v2 v3 v4 v5 v6 : V} {p dx : Addr} {sp : Sp} {W : WX} {t : TA} (ho : H p = some (oFiles K dx v0 v1 v2 v3 v4 v5 v6)) (q : t σ H fun vs H2 => sp (.ref p :: vs) H2 Q fun c d H3 => W c d σ H3) : rMeth (He.ga K "Files") "write" sp W t σ (.ref p) H Q :=
  ⟨p, dx, _, rfl, ho, no_Files_write .., q⟩
theorem x_meth_Files_cut {v0 v1 v2 v3 v4 v5 v6 : V} {p dx : Addr} {sp : Sp} {W : WX} {t : TA} (ho : H p = some (oFiles K dx v0 v1 v2 v3 v4 v5 v6)) (q : t σ H fun vs H2 => sp (.ref p :: vs) H2 Q fun c d H3 => W c d σ H3) : rMeth (He.ga K "Files") "cut" sp W t σ (.ref p) H Q :=
  ⟨p, dx, _, rfl, ho, no_Files_cut .., q⟩
theorem x_meth_Files_stat {v0 v1 v2 v3 v4 v5 v6 : V} {p dx : Addr} {sp : Sp} {W : WX} {t : TA} (ho : H p = some (oFiles K dx v0 v1 v2 v3 v4 v5 v6)) (q : t σ H fun vs H2 => sp (.ref p :: vs) H2 Q fun c d H3 => W c d σ H3) : rMeth (He.ga K "Files") "stat" sp W t σ (.ref p) H Q :=
  ⟨p, dx, _, rfl, ho, no_Files_stat .., q⟩
theorem x_meth_Files_names {v0 v1 v2 v3 v4 v5 v6 : V} {p dx : Addr} {sp : Sp} {W : WX} {t : TA} (ho : H p = some (oFiles K dx v0 v1 v2 v3 v4 v5 v6)) (q : t σ H fun vs H2 => sp (.ref p :: vs) H2 Q fun c d H3 => W c d σ H3) : rMeth (He.ga K "Files") "names" sp W t σ (.ref p) H Q :=
  ⟨p, dx, _, rfl, ho, no_Files_names .., q⟩
theorem x_meth_Files_sync {v0 v1 v2 v3 v4 v5 v6 : V} {p dx : Addr} {sp : Sp} {W : WX} {t : TA} (ho : H p = some (oFiles K dx v0 v1 v2 v3 v4 v5 v6)) (q : t σ H fun vs H2 => sp (.ref p :: vs) H2 Q fun c d H3 => W c d σ H3) : rMeth (He.ga K "Files") "sync" sp W t σ (.ref p) H Q :=
  ⟨p, dx, _, rfl, ho, no_Files_sync .., q⟩
theorem x_meth_Files_write_all {v0 v1 v2 v3 v4 v5 v6 : V} {p dx : Addr} {sp : Sp} {W : WX} {t : TA} (ho : H p = some (oFiles K dx v0 v1 v2 v3 v4 v5 v6)) (q : t σ H fun vs H2 => sp (.ref p :: vs) H2 Q fun c d H3 => W c d σ H3) : rMeth (He.ga K "Files") "write_all" sp W t σ (.ref p) H Q :=
  ⟨p, dx, _, rfl, ho, no_Files_write_all .., q⟩
theorem x_meth_Files_snap {v0 v1 v2 v3 v4 v5 v6 : V} {p dx : Addr} {sp : Sp} {W : WX} {t : TA} (ho : H p = some (oFiles K dx v0 v1 v2 v3 v4 v5 v6)) (q : t σ H fun vs H2 => sp (.ref p :: vs) H2 Q fun c d H3 => W c d σ H3) : rMeth (He.ga K "Files") "snap" sp W t σ (.ref p) H Q :=
  ⟨p, dx, _, rfl, ho, no_Files_snap .., q⟩
theorem x_meth_Files_need_snap {v0 v1 v2 v3 v4 v5 v6 : V} {p dx : Addr} {sp : Sp} {W : WX} {t : TA} (ho : H p = some (oFiles K dx v0 v1 v2 v3 v4 v5 v6)) (q : t σ H fun vs H2 => sp (.ref p :: vs) H2 Q fun c d H3 => W c d σ H3) : rMeth (He.ga K "Files") "need_snap" sp W t σ (.ref p) H Q :=
  ⟨p, dx, _, rfl, ho, no_Files_need_snap .., q⟩
theorem x_meth_Files_unsnap {v0 v1 v2 v3 v4 v5 v6 : V} {p dx : Addr} {sp : Sp} {W : WX} {t : TA} (ho : H p = some (oFiles K dx v0 v1 v2 v3 v4 v5 v6)) (q : t σ H fun vs H2 => sp (.ref p :: vs) H2 Q fun c d H3 => W c d σ H3) : rMeth (He.ga K "Files") "unsnap" sp W t σ (.ref p) H Q :=
  ⟨p, dx, _, rfl, ho, no_Files_unsnap .., q⟩
theorem x_meth_Files_see {v0 v1 v2 v3 v4 v5 v6 : V} {p dx : Addr} {sp : Sp} {W : WX} {t : TA} (ho : H p = some (oFiles K dx v0 v1 v2 v3 v4 v5 v6)) (q : t σ H fun vs H2 => sp (.ref p :: vs) H2 Q fun c d H3 => W c d σ H3) : rMeth (He.ga K "Files") "see" sp W t σ (.ref p) H Q :=
  ⟨p, dx, _, rfl, ho, no_Files_see .., q⟩
theorem x_meth_Files_snaps {v0 v1 v2 v3 v4 v5 v6 : V} {p dx : Addr} {sp : Sp} {W : WX} {t : TA} (ho : H p = some (oFiles K dx v0 v1 v2 v3 v4 v5 v6)) (q : t σ H fun vs H2 => sp (.ref p :: vs) H2 Q fun c d H3 => W c d σ H3) : rMeth (He.ga K "Files") "snaps" sp W t σ (.ref p) H Q :=
  ⟨p, dx, _, rfl, ho, no_Files_snaps .., q⟩
end
end SP

set_option Elab.async false
set_option linter.all false
set_option maxRecDepth 100000
set_option maxHeartbeats 4000000
/-! Readings by name, and what each asks, one step at a time. -/
namespace SP
open PySem PySem.Spec PyProof.Rows L2

/-! ### operators by name -/
abbrev rAddI : R2 := rI0 fun i j => .int (i + j)
abbrev rSubI : R2 := rI0 fun i j => .int (i - j)
abbrev rMulI : R2 := rI CMul fun i j => .int (i * j)
abbrev rMulX : R2 := rI CMulW fun i j => .int (i * j)
abbrev rDivI : R2 := rI CDiv fun i j => .int (i / j)
abbrev rModI : R2 := rI (fun _ j => 0 < j) fun i j => .int (i % j)
abbrev rShl : R2 := rI CPow fun i j => .int (i * 2 ^ j.toNat)
def rAddS : R2 := fun x y H Q => ∃ i j, x = .str i ∧ y = .str j ∧ i.length + j.length ≤ sizeLine ∧ Q (.str (i ++ j)) H
theorem op_addS {X : Cx} : OpR X (binaryOp .Add) rAddS := op_add_str
abbrev rLtI : R2 := rI0 fun i j => .bl (decide (i < j))
abbrev rLeI : R2 := rI0 fun i j => .bl (decide (i ≤ j))
abbrev rGtI : R2 := rI0 fun i j => .bl (decide (j < i))
abbrev rGeI : R2 := rI0 fun i j => .bl (decide (j ≤ i))
def rIsN : R2 := fun x y H Q => y = .non ∧ Q (.bl (decide (x = .non))) H
def rNotN : R2 := fun x y H Q => y = .non ∧ Q (.bl (!decide (x = .non))) H
theorem op_isNn {X : Cx} : OpR X (compareOp .Is) rIsN := op_isN
theorem op_notNn {X : Cx} : OpR X (compareOp .IsNot) rNotN := op_notN
def rInS : R2 := fun x y H Q => ∃ (c : Nat) (z : Str), x = .str ⟨#[c]⟩ ∧ y = .str z ∧ Q (.bl (decide (c ∈ z.cps.toList))) H
theorem op_inSn {X : Cx} : OpR X (compareOp .In) rInS := op_in_sign
abbrev rInQ (K : PySem.W.Frag) : R2 := rIn K false
abbrev rNiQ (K : PySem.W.Frag) : R2 := rIn K true
def rNegI : V → Hp → VK → Prop := rU fun i => .int (-i)
theorem un_negn {X : Cx} : UnR X (unaryOp .USub) rNegI := un_neg
/-! calls of built-ins by name -/
def cLenD : List V → Hp → VK → Prop := fun xs H Q => ∃ a kvs, xs = [V.ref a] ∧ H a = some (.dK kvs) ∧ Q (.int kvs.length) H
theorem call_lenDn {X : Cx} : CallR X (.builtin "len") cLenD := call_lenD
def cLenQ (K : PySem.W.Frag) : List V → Hp → VK → Prop := fun xs H Q => ∃ p ys, xs = [.ref p] ∧ (SqL K H p ys ∨ SqT K H p ys) ∧ Q (.int ys.length) H
theorem call_lenQn {X : Cx} : CallR X (.builtin "len") (cLenQ X.K) := call_len_seq
def cLenS : List V → Hp → VK → Prop := fun xs H Q => ∃ z, xs = [.str z] ∧ z.length ≤ sizeLine ∧ Q (.int z.length) H
theorem call_lenSn {X : Cx} : CallR X (.builtin "len") cLenS := call_len_str
def cMin2 : List V → Hp → VK → Prop := fun xs H Q => ∃ i j, xs = [.int i, .int j] ∧ Q (.int (if j < i then j else i)) H
theorem call_min2n {X : Cx} (hc : X.calm = true) : CallR X (.builtin "min") cMin2 := call_min2 hc
def cMax2 : List V → Hp → VK → Prop := fun xs H Q => ∃ i j, xs = [.int i, .int j] ∧ Q (.int (if j > i then j else i)) H
theorem call_max2n {X : Cx} (hc : X.calm = true) : CallR X (.builtin "max") cMax2 := call_max2 hc
def cOrd : List V → Hp → VK → Prop := fun xs H Q => ∃ x, xs = [.str x] ∧ x.length = 1 ∧ Q (.int (x.cps.getD 0 0 : Nat)) H
theorem call_ordn {X : Cx} : CallR X (.builtin "ord") cOrd := call_ord
def cList (K : PySem.W.Frag) : List V → Hp → VK → Prop := fun xs H Q => ∃ p ys, xs = [.ref p] ∧ (SqL K H p ys ∨ SqT K H p ys) ∧ ∀ l, H l = none → Q (.ref l) (upd H l (.lst ys))
theorem call_listn {X : Cx} : CallR X (.type "list") (cList X.K) := call_list_of
def cTuple (K : PySem.W.Frag) : List V → Hp → VK → Prop := fun xs H Q => ∃ p ys, xs = [.ref p] ∧ ((SqL K H p ys ∧ ∀ l, H l = none → Q (.ref l) (upd H l (.tup ys))) ∨ (SqT K H p ys ∧ Q (.ref p) H))
theorem call_tuplen {X : Cx} : CallR X (.type "tuple") (cTuple X.K) := call_tuple_of
def cInt : List V → Hp → VK → Prop := fun xs H Q => (∃ i, xs = [.int i] ∧ Q (.int i) H) ∨ ∃ k, xs = [.bl k] ∧ Q (.int (if k then 1 else 0)) H
theorem call_intn {X : Cx} : CallR X (.type "int") cInt := call_int1
def cStrI : List V → Hp → VK → Prop := fun xs H Q => ∃ i, xs = [.int i] ∧ i.natAbs.log2 < 1920 ∧ Q (.str (toString i)) H
theorem call_strn {X : Cx} : CallR X (.type "str") cStrI := call_str_int

section
variable {K : PySem.W.Frag} {σ : L2.St} {H : Hp} {Q : VK} {QB : Bool → Hp → Prop} {QA : List V → Hp → Prop} {D : Ends} {nx bk ct : L2.St → Hp → Prop} {rt : VK} {t u : TS} {te ta tb : TE} {tt tu : TT} {tA : TA} {g : TG} {v x y : V} {r : R2} {f : Str} {W : WX} {sp : Sp}

/-! ### the middles by name -/
def rBl (QB : Bool → Hp → Prop) : V → Hp → Prop := fun x H => ∃ k, x = .bl k ∧ QB k H
def rNewT (xs : List V) (H : Hp) (Q : VK) : Prop := xs.length ≤ sizeLine ∧ ∀ p, H p = none → Q (.ref p) (upd H p (.tup xs))
def rNewL (xs : List V) (H : Hp) (Q : VK) : Prop := xs.length ≤ sizeLine ∧ ∀ p, H p = none → Q (.ref p) (upd H p (.lst xs))
def rPart (q : Option Int → Hp → Prop) : V → Hp → Prop := fun x H => ∃ i, x = .int i ∧ q (some i) H
def rGetD (x y : V) (H : Hp) (Q : VK) : Prop := ∃ a v, x = .ref a ∧ DGet H a y (some v) ∧ Q v H
def rDin (y x : V) (H : Hp) (Q : VK) : Prop := ∃ a o, x = .ref a ∧ DGet H a y o ∧ Q (.bl o.isSome) H
def rDni (y x : V) (H : Hp) (Q : VK) : Prop := ∃ a o, x = .ref a ∧ DGet H a y o ∧ Q (.bl (!o.isSome)) H
def rPutD (x y v : V) (H : Hp) (q : Hp → Prop) : Prop := ∃ a H4, x = .ref a ∧ DPut H a y v H4 ∧ q H4
def rNewI (C : Addr) (sp : Sp) (W : WX) (σ : L2.St) (vs : List V) (H : Hp) (Q : VK) : Prop := ∀ x dx, H x = none → H dx = none → dx ≠ x → sp (.ref x :: vs) (upd (upd H dx (.own x)) x (.ins C dx [])) (fun v H2 => v = .non ∧ Q (.ref x) H2) fun c d H2 => W c d σ H2
def rRng1 (vs : List V) (H : Hp) (R : It → Hp → Prop) : Prop := ∃ j : Int, vs = [.int j] ∧ -(2 ^ 62) ≤ j ∧ j < 2 ^ 62 ∧ R (Itr 0 j.toNat) H
def rRng2 (vs : List V) (H : Hp) (R : It → Hp → Prop) : Prop := ∃ i j : Int, vs = [.int i, .int j] ∧ (-(2 ^ 62) ≤ i ∧ i < 2 ^ 62 ∧ -(2 ^ 62) ≤ j ∧ j < 2 ^ 62) ∧ R (Itr i (j - i).toNat) H
def rWlk (K : PySem.W.Frag) (x : V) (H : Hp) (R : It → Hp → Prop) : Prop := ∃ a, x = .ref a ∧ (∃ xs, SqL K H a xs) ∧ R (Itl K a) H
/-! ### statements -/
/-! ### tests -/
theorem x_bl {k : Bool} (q : QB k H) : rBl QB (.bl k) H := ⟨k, rfl, q⟩
theorem x_blI {k : Bool} {A : Bool → Prop} (q : A k) : ∃ k', V.bl k = .bl k' ∧ A k' := ⟨k, rfl, q⟩
theorem x_if {b : Bool} {A B : Prop} (h1 : b = true → A) (h2 : b = false → B) : if b = true then A else B := by
  cases b with
  | true => exact (if_pos rfl).mpr (h1 rfl)
  | false => exact (if_neg Bool.false_ne_true).mpr (h2 rfl)
theorem x_ifT {b : Bool} {A B : Prop} (e : b = true) (h : A) : if b = true then A else B := by
  rw [if_pos e]
  exact h
theorem x_ifF {b : Bool} {A B : Prop} (e : b = false) (h : B) : if b = true then A else B := by
  rw [e, if_neg Bool.false_ne_true]
  exact h
/-! ### expressions -/
theorem w_var {i : Nat} (e : σ[i]? = some (some v)) (q : Q v H) : tVar i σ H Q := ⟨v, e, q⟩
/-! made objects -/
theorem x_tup {xs : List V} (q : ∀ p H', H p = none → H' p = some (.tup xs) → Same H H' → Q (.ref p) H') (hl : xs.length ≤ 1000 := by exact Nat.le_of_ble_eq_true rfl) : rNewT xs H Q :=
  ⟨Nat.le_of_lt (small1000 hl), fun p hp => q p _ hp upd_same (Same.new hp)⟩
theorem x_lst {xs : List V} (q : ∀ p H', H p = none → H' p = some (.lst xs) → Same H H' → Q (.ref p) H') (hl : xs.length ≤ 1000 := by exact Nat.le_of_ble_eq_true rfl) : rNewL xs H Q :=
  ⟨Nat.le_of_lt (small1000 hl), fun p hp => q p _ hp upd_same (Same.new hp)⟩
theorem x_new {o : HO} (q : ∀ p H', H p = none → H' p = some o → Same H H' → Q (.ref p) H') : ∀ p, H p = none → Q (.ref p) (upd H p o) := fun p hp => q p _ hp upd_same (Same.new hp)
theorem w_dnew (q : ∀ p H', H p = none → H' p = some (.dK []) → Same H H' → Q (.ref p) H') : tDNewK σ H Q := fun p hp => q p _ hp upd_same (Same.new hp)
/-! ints -/
theorem x_addI {i j : Int} (q : Q (.int (i + j)) H) : rAddI (.int i) (.int j) H Q := ⟨i, j, rfl, rfl, q⟩
theorem x_subI {i j : Int} (q : Q (.int (i - j)) H) : rSubI (.int i) (.int j) H Q := ⟨i, j, rfl, rfl, q⟩
theorem x_mulI {i j : Int} (h : CMul i j) (q : Q (.int (i * j)) H) : rMulI (.int i) (.int j) H Q := ⟨i, j, rfl, rfl, h, q⟩
theorem x_mulX {i j : Int} (h : CMulW i j) (q : Q (.int (i * j)) H) : rMulX (.int i) (.int j) H Q := ⟨i, j, rfl, rfl, h, q⟩
theorem x_divI {i j : Int} (h : CDiv i j) (q : Q (.int (i / j)) H) : rDivI (.int i) (.int j) H Q := ⟨i, j, rfl, rfl, h, q⟩
theorem x_modI {i j : Int} (h : 0 < j) (q : Q (.int (i % j)) H) : rModI (.int i) (.int j) H Q := ⟨i, j, rfl, rfl, h, q⟩
theorem x_shl {i j : Int} (h : CPow i j) (q : Q (.int (i * 2 ^ j.toNat)) H) : rShl (.int i) (.int j) H Q := ⟨i, j, rfl, rfl, h, q⟩
theorem x_ltI {i j : Int} (q : Q (.bl (decide (i < j))) H) : rLtI (.int i) (.int j) H Q := ⟨i, j, rfl, rfl, q⟩
theorem x_leI {i j : Int} (q : Q (.bl (decide (i ≤ j))) H) : rLeI (.int i) (.int j) H Q := ⟨i, j, rfl, rfl, q⟩
theorem x_gtI {i j : Int} (q : Q (.bl (decide (j < i))) H) : rGtI (.int i) (.int j) H Q := ⟨i, j, rfl, rfl, q⟩
theorem x_geI {i j : Int} (q : Q (.bl (decide (j ≤ i))) H) : rGeI (.int i) (.int j) H Q := ⟨i, j, rfl, rfl, q⟩
theorem x_neg {i : Int} (q : Q (.int (-i)) H) : rNegI (.int i) H Q := ⟨i, rfl, q⟩
/-! == -/
theorem x_eqI {i j : Int} (q : Q (.bl (decide (i = j))) H) : rEq (.int i) (.int j) H Q := ⟨rfl, by rw [dec_int, Bool.beq_eq_decide_eq]; exact q⟩
theorem x_neI {i j : Int} (q : Q (.bl (!decide (i = j))) H) : rNe (.int i) (.int j) H Q := ⟨rfl, by rw [dec_int, Bool.beq_eq_decide_eq]; exact q⟩
theorem x_eqS {i j : Str} (q : Q (.bl (decide (i = j))) H) : rEq (.str i) (.str j) H Q := ⟨rfl, by rw [dec_str, Bool.beq_eq_decide_eq]; exact q⟩
theorem x_neS {i j : Str} (q : Q (.bl (!decide (i = j))) H) : rNe (.str i) (.str j) H Q := ⟨rfl, by rw [dec_str, Bool.beq_eq_decide_eq]; exact q⟩
theorem x_isN (q : Q (.bl (decide (x = .non))) H) : rIsN x .non H Q := ⟨rfl, q⟩
theorem x_notN (q : Q (.bl (!decide (x = .non))) H) : rNotN x .non H Q := ⟨rfl, q⟩
/-! texts -/
theorem x_addS {i j : Str} (h : i.length + j.length ≤ sizeLine) (q : Q (.str (i ++ j)) H) : rAddS (.str i) (.str j) H Q := ⟨i, j, rfl, rfl, h, q⟩
theorem x_inS {c : Nat} {z : Str} (q : Q (.bl (decide (c ∈ z.cps.toList))) H) : rInS (.str ⟨#[c]⟩) (.str z) H Q := ⟨c, z, rfl, rfl, q⟩
theorem x_lenS {z : Str} (h : z.length ≤ sizeLine) (q : Q (.int z.length) H) : cLenS [.str z] H Q := ⟨z, rfl, h, q⟩
/-! lists, tuples, dicts -/
theorem x_ixL {p : Addr} {xs : List V} {i : Int} (h : SqL K H p xs) (e : atI xs i = some v) (q : Q v H) : rIxL K (.ref p) (.int i) H Q := ⟨p, xs, i, v, rfl, rfl, h, e, q⟩
theorem x_ixT {p : Addr} {xs : List V} {i : Int} (h : SqT K H p xs) (e : atI xs i = some v) (q : Q v H) : rIxT K (.ref p) (.int i) H Q := ⟨p, xs, i, v, rfl, rfl, h, e, q⟩
theorem x_lenL {p : Addr} {xs : List V} (h : H p = some (.lst xs)) (q : Q (.int xs.length) H) : cLenQ K [.ref p] H Q := ⟨p, xs, rfl, .inl (SqL.of h), q⟩
theorem x_lenT {p : Addr} {xs : List V} (h : H p = some (.tup xs)) (q : Q (.int xs.length) H) : cLenQ K [.ref p] H Q := ⟨p, xs, rfl, .inr (SqT.of h), q⟩
theorem x_lenD {p : Addr} {kvs : List (Key × V)} (h : H p = some (.dK kvs)) (q : Q (.int kvs.length) H) : cLenD [.ref p] H Q := ⟨p, kvs, rfl, h, q⟩
theorem x_cat {l b : Addr} {xs zs : List V} (h1 : H l = some (.lst xs)) (h2 : H b = some (.lst zs)) (hl : xs.length + zs.length ≤ sizeLine) (q : ∀ p H', H p = none → H' p = some (.lst (xs ++ zs)) → Same H H' → Q (.ref p) H') : rCat (.ref l) (.ref b) H Q :=
  ⟨l, b, xs, zs, rfl, rfl, h1, h2, hl, x_new q⟩
theorem x_rep {l : Addr} {xs : List V} {k : Int} (h : H l = some (.lst xs)) (h1 : -(2 ^ 63) ≤ k) (h2 : k < 2 ^ 63) (hl : xs.length * k.toNat ≤ sizeLine) (q : ∀ p H', H p = none → H' p = some (.lst (List.replicate k.toNat xs).flatten) → Same H H' → Q (.ref p) H') : rRep (.ref l) (.int k) H Q :=
  ⟨l, k, xs, rfl, rfl, h, h1, h2, hl, x_new q⟩
theorem x_repT {l : Addr} {xs : List V} {k : Int} (h : H l = some (.tup xs)) (h0 : xs ≠ []) (h1 : 2 ≤ k) (h2 : k ≤ 1000) (hl : xs.length ≤ 1000) (q : ∀ p H', H p = none → H' p = some (.tup (List.replicate k.toNat xs).flatten) → Same H H' → Q (.ref p) H') : rRepT K (.ref l) (.int k) H Q :=
  ⟨l, k, xs, rfl, rfl, SqT.of h, h0, h1, h2, hl, x_new q⟩
theorem x_setL {p : Addr} {xs : List V} {k : Int} {j : Nat} {q : Hp → Prop} (h : H p = some (.lst xs)) (e : ixN xs.length k = some j) (h2 : q (upd H p (.lst (xs.set j v)))) : rSetL (.ref p) (.int k) v H q := ⟨p, xs, k, j, rfl, rfl, h, e, h2⟩
theorem ty_lst {p : Addr} {xs : List V} {A : Prop} (h : H p = some (.lst xs)) (q : A) : tyV K "list" (.ref p) H ∧ A := ⟨.inl ⟨rfl, _, SqL.of h⟩, q⟩
theorem ty_dK {p : Addr} {kvs : List (Key × V)} {A : Prop} (h : H p = some (.dK kvs)) (q : A) : tyV K "dict" (.ref p) H ∧ A := ⟨.inr (.inr (.inl ⟨rfl, .inl ⟨_, h⟩⟩)), q⟩
theorem x_app {l : Addr} {xs : List V} (h : H l = some (.lst xs)) (hl : xs.length < sizeLine) (q : Q .non (upd H l (.lst (xs ++ [v])))) : rAppend (.ref l) [v] H Q := ⟨l, xs, v, rfl, rfl, h, hl, q⟩
theorem x_part {i : Int} {q : Option Int → Hp → Prop} (h : q (some i) H) : rPart q (.int i) H := ⟨i, rfl, h⟩
theorem x_slL {p : Addr} {xs : List V} {lo hi : Option Int} (h : SqL K H p xs) (q : ∀ p' H', H p' = none → H' p' = some (.lst (cutV xs lo hi)) → Same H H' → Q (.ref p') H') : rSlL K (.ref p) lo hi H Q := ⟨p, xs, rfl, h, x_new q⟩
theorem x_slS {z : Str} {lo hi : Option Int} (h : z.length ≤ sizeLine) (q : Q (.str (cutS z lo hi)) H) : rSlS (.str z) lo hi H Q := ⟨z, rfl, h, q⟩
theorem x_listL {p : Addr} {xs : List V} (h : SqL K H p xs) (q : ∀ l H', H l = none → H' l = some (.lst xs) → Same H H' → Q (.ref l) H') : cList K [.ref p] H Q := ⟨p, xs, rfl, .inl h, x_new q⟩
theorem x_listT {p : Addr} {xs : List V} (h : SqT K H p xs) (q : ∀ l H', H l = none → H' l = some (.lst xs) → Same H H' → Q (.ref l) H') : cList K [.ref p] H Q := ⟨p, xs, rfl, .inr h, x_new q⟩
theorem x_tupleL {p : Addr} {xs : List V} (h : SqL K H p xs) (q : ∀ l H', H l = none → H' l = some (.tup xs) → Same H H' → Q (.ref l) H') : cTuple K [.ref p] H Q := ⟨p, xs, rfl, .inl ⟨h, x_new q⟩⟩
theorem dget_rd {a : Addr} {kvs : List (Key × V)} {k : Key} {y : V} {o : Option V} (e : Rd H a (.dK kvs)) (ey : y = kV k) (eo : o = valV kvs k) : DGet H a y o := .inl ⟨kvs, k, e, ey, eo⟩
theorem x_dget {a : Addr} {kvs : List (Key × V)} {k : Key} (e : Rd H a (.dK kvs)) (ey : y = kV k) (eo : valV kvs k = some v) (q : Q v H) : rGetD (.ref a) y H Q := ⟨a, v, rfl, dget_rd e ey eo.symm, q⟩
theorem x_din {a : Addr} {kvs : List (Key × V)} {k : Key} (e : Rd H a (.dK kvs)) (ey : y = kV k) {b : Bool} (eb : (valV kvs k).isSome = b) (q : Q (.bl b) H) : rDin y (.ref a) H Q := ⟨a, _, rfl, dget_rd e ey rfl, by rw [eb]; exact q⟩
theorem x_dni {a : Addr} {kvs : List (Key × V)} {k : Key} (e : Rd H a (.dK kvs)) (ey : y = kV k) {b : Bool} (eb : (valV kvs k).isSome = b) (q : Q (.bl (!b)) H) : rDni y (.ref a) H Q := ⟨a, _, rfl, dget_rd e ey rfl, by rw [eb]; exact q⟩
theorem x_dput {a : Addr} {kvs : List (Key × V)} {k : Key} {q : Hp → Prop} (e : H a = some (.dK kvs)) (hl : kvs.length ≤ 1000) (ey : y = kV k) (h : q (upd H a (.dK (putK kvs k v)))) : rPutD (.ref a) y v H q :=
  ⟨a, _, rfl, .inl ⟨kvs, k, e, ey, small1000 hl, rfl⟩, h⟩
/-! equal data -/
theorem x_eqD {d e : PyData} {a b : V} (h1 : Dp K H a d) (h2 : Dp K H b e) (s1 : SeqAt.shaped d = true) (s2 : SeqAt.shaped e = true) (q : Q (.bl (PyData.eqv d e)) H) : rEqD K a b H Q := ⟨d, e, h1, h2, s1, s2, q⟩
theorem x_neD {d e : PyData} {a b : V} (h1 : Dp K H a d) (h2 : Dp K H b e) (s1 : SeqAt.shaped d = true) (s2 : SeqAt.shaped e = true) (q : Q (.bl (!PyData.eqv d e)) H) : rNeD K a b H Q := ⟨d, e, h1, h2, s1, s2, q⟩
/-! making an instance -/
theorem x_make {C : Addr} {vs : List V} (q : ∀ x dx H', H x = none → H' x = some (.ins C dx []) → Same H H' → sp (.ref x :: vs) H' (fun v H2 => v = .non ∧ Q (.ref x) H2) fun c d H2 => W c d σ H2) : rNewI C sp W σ vs H Q :=
  fun x dx nx ndx ne => q x dx _ nx upd_same fun a o e => by
    rw [upd_ne (ne_of_none e nx), upd_ne (ne_of_none e ndx)]
    exact e
/-! ### loops -/
/-- behind the reading of what is walked -/
def rFor (J : It) (g : TG) (tb : TS) (D : Ends) (σ : L2.St) (H1 : Hp) : Prop := ∃ W : Nat → Nat → L2.St → Hp → Prop, (∃ m, W 0 m σ H1) ∧ ∀ i m σ H, W i m σ H →
  (J.stop i H ∧ D.nx σ H) ∨ (J.go i H ∧ ∃ N : L2.St → Hp → Prop, (∀ σ' H', N σ' H' → ∃ m', m' < m ∧ W (i + 1) m' σ' H') ∧ ∀ x H', J.yld i H x H' → g x σ H' fun σ2 H2 => tb ⟨N, D.rt, D.nx, N⟩ σ2 H2)
theorem x_forW {J : It} {n : Nat} {G : Hp → Prop} {Y : Nat → Hp → V → Hp → Prop} (w : Walk J n G Y) (Pv : Nat → L2.St → Hp → Prop) (h0 : Pv 0 σ H) (hG : ∀ i σ H, i ≤ n → Pv i σ H → G H)
    (hs : ∀ i x σ H H', i < n → Pv i σ H → Y i H x H' → g x σ H' fun σ2 H2 => t ⟨Pv (i + 1), D.rt, D.nx, Pv (i + 1)⟩ σ2 H2) (hd : ∀ σ H, Pv n σ H → D.nx σ H) : rFor J g t D σ H :=
  for_it w Pv h0 hG hs hd
theorem x_forL {a : Addr} {xs : List V} (Pv : Nat → L2.St → Hp → Prop) (h0 : Pv 0 σ H) (hl : ∀ i σ H, i ≤ xs.length → Pv i σ H → SqL K H a xs)
    (hs : ∀ i x σ H, xs[i]? = some x → Pv i σ H → g x σ H fun σ2 H2 => t ⟨Pv (i + 1), D.rt, D.nx, Pv (i + 1)⟩ σ2 H2) (hd : ∀ σ H, Pv xs.length σ H → D.nx σ H) : rFor (Itl K a) g t D σ H :=
  for_list Pv h0 hl hs hd
theorem x_forR {lo : Int} {n : Nat} (Pv : Nat → L2.St → Hp → Prop) (h0 : Pv 0 σ H)
    (hs : ∀ i σ H, i < n → Pv i σ H → g (.int (lo + i)) σ H fun σ2 H2 => t ⟨Pv (i + 1), D.rt, D.nx, Pv (i + 1)⟩ σ2 H2) (hd : ∀ σ H, Pv n σ H → D.nx σ H) : rFor (Itr lo n) g t D σ H :=
  for_range Pv h0 hs hd
theorem x_rng1 {R : It → Hp → Prop} {j : Int} (h1 : -(2 ^ 62) ≤ j) (h2 : j < 2 ^ 62) (h : R (Itr 0 j.toNat) H) : rRng1 [.int j] H R := ⟨j, rfl, h1, h2, h⟩
theorem x_rng2 {R : It → Hp → Prop} {i j : Int} (h1 : -(2 ^ 62) ≤ i ∧ i < 2 ^ 62 ∧ -(2 ^ 62) ≤ j ∧ j < 2 ^ 62) (h : R (Itr i (j - i).toNat) H) : rRng2 [.int i, .int j] H R := ⟨i, j, rfl, h1, h⟩
theorem x_ilist {R : It → Hp → Prop} {a : Addr} {xs : List V} (hx : SqL K H a xs) (h : R (Itl K a) H) : rWlk K (.ref a) H R := ⟨a, rfl, ⟨xs, hx⟩, h⟩
end
theorem sameAt {H H' : Hp} {a : Addr} {o : HO} (s : Same H H') (h : H a = some o) : H' a = some o := s a o h
theorem sameTr {H H1 H2 : Hp} (b : Same H1 H2) (a : Same H H1) : Same H H2 := a.trans b
end SP

set_option Elab.async false
set_option linter.all false
set_option maxRecDepth 100000
set_option maxHeartbeats 4000000
/-! The readings once more, unfolded by the reducible steps alone. -/
namespace SP
open PySem PySem.Spec PyProof.Rows L2
abbrev W0 : WX := fun _ _ _ _ => False
abbrev fin (Q : VK) : Ends := { nx := fun _ H' => Q .non H', rt := Q }
/-- an error of class x is wished -/
abbrev Exn (K : PySem.W.Frag) (E : XK) (x : Str) (H : Hp) : Prop := E (.ref (He.ga K x)) none H
abbrev WE1 (E : XK) : WX := fun c d _ H => E c d H
section
variable (K : PySem.W.Frag)
abbrev uSeq (t u : TS) : TS := fun D σ H => t { nx := u D, rt := D.rt, bk := D.bk, ct := D.ct } σ H
abbrev uNext : TS := fun D σ H => D.nx σ H
abbrev uBreak : TS := fun D σ H => D.bk σ H
abbrev uCont : TS := fun D σ H => D.ct σ H
abbrev uAsg (te : TE) (g : TG) : TS := fun D σ H => te σ H fun x H1 => g x σ H1 D.nx
abbrev vName (i : Nat) : TG := fun v σ H Q => Q (σ.set i (some v)) H
abbrev uRet (te : TE) : TS := fun D σ H => te σ H D.rt
abbrev uRetN : TS := fun D _ H => D.rt .non H
abbrev uDrop (te : TE) : TS := fun D σ H => te σ H fun _ H1 => D.nx σ H1
abbrev uIfS (c : TT) (t u : TS) : TS := fun D σ H => c σ H fun b H1 => if b = true then t D σ H1 else u D σ H1
abbrev uRaiseW (W : WX) (c : Addr) : TS := fun _ σ H => W (.ref c) none σ H
abbrev uFldS (ta tv : TE) (f : Str) : TS := fun D σ H => tv σ H fun y H1 => ta σ H1 fun x H2 => rSet1 K f y x H2 (D.nx σ)
abbrev uTest (t : TE) : TT := fun σ H Q => t σ H fun x H' => rBl Q x H'
abbrev uAnd (t u : TT) : TT := fun σ H Q => t σ H fun c H1 => if c = true then u σ H1 Q else Q false H1
abbrev uOr (t u : TT) : TT := fun σ H Q => t σ H fun c H1 => if c = true then Q true H1 else u σ H1 Q
abbrev uNot (t : TT) : TT := fun σ H Q => t σ H fun c H1 => Q (!c) H1
def rBV (A : Bool → Prop) (x : V) : Prop := ∃ c, x = .bl c ∧ A c
theorem x_bv {A : Bool → Prop} {k : Bool} (q : A k) : rBV A (.bl k) := ⟨k, rfl, q⟩
abbrev uAndV (ta tb : TE) : TE := fun σ H Q => ta σ H fun x H1 => rBV (fun c => if c = true then tb σ H1 Q else Q (.bl false) H1) x
abbrev uOrV (ta tb : TE) : TE := fun σ H Q => ta σ H fun x H1 => rBV (fun c => if c = true then Q (.bl true) H1 else tb σ H1 Q) x
abbrev uNotV (ta : TE) : TE := fun σ H Q => ta σ H fun x H1 => rBV (fun c => Q (.bl (!c)) H1) x
abbrev uIf (t : TT) (ta tb : TE) : TE := fun σ H Q => t σ H fun c H1 => if c = true then ta σ H1 Q else tb σ H1 Q
abbrev uC (v : V) : TE := fun _ H Q => Q v H
abbrev uOp (r : R2) (ta tb : TE) : TE := fun σ H Q => ta σ H fun x H1 => tb σ H1 fun y H2 => r x y H2 Q
abbrev uUn (r : V → Hp → VK → Prop) (ta : TE) : TE := fun σ H Q => ta σ H fun x H1 => r x H1 Q
abbrev uChain (r r' : R2) (ta tb tc : TE) : TE := fun σ H Q => ta σ H fun x H1 => tb σ H1 fun y H2 => r x y H2 fun z H3 => rBV (fun k => if k = true then tc σ H3 fun w' H4 => r' y w' H4 Q else Q (.bl false) H3) z
abbrev uFld (ta : TE) (f : Str) : TE := fun σ H Q => ta σ H fun x H1 => rFld K f x H1 Q
abbrev uNil : TA := fun _ H Q => Q [] H
abbrev uCons (ta : TE) (tr : TA) : TA := fun σ H Q => ta σ H fun x H1 => tr σ H1 fun xs H2 => Q (x :: xs) H2
abbrev uCB (r : List V → Hp → VK → Prop) (t : TA) : TE := fun σ H Q => t σ H fun vs H1 => r vs H1 Q
abbrev uCallW (sp : Sp) (W : WX) (t : TA) : TE := fun σ H Q => t σ H fun vs H1 => sp vs H1 Q fun c d H2 => W c d σ H2
abbrev uMethW (C : Addr) (m : Str) (sp : Sp) (W : WX) (ta : TE) (t : TA) : TE := fun σ H Q => ta σ H fun x H1 => rMeth C m sp W t σ x H1 Q
abbrev uMakeW (C : Addr) (sp : Sp) (W : WX) (t : TA) : TE := fun σ H Q => t σ H fun vs H1 => rNewI C sp W σ vs H1 Q
abbrev uTup (t : TA) : TE := fun σ H Q => t σ H fun xs H1 => rNewT xs H1 Q
abbrev uLst (t : TA) : TE := fun σ H Q => t σ H fun xs H1 => rNewL xs H1 Q
abbrev uSl (r : V → Option Int → Option Int → Hp → VK → Prop) (te : TE) (tl th : TO) : TE := fun σ H Q => te σ H fun x H1 => tl σ H1 fun l H2 => th σ H2 fun u H3 => r x l u H3 Q
abbrev uNoPart : TO := fun _ H Q => Q none H
abbrev uPart (t : TE) : TO := fun σ H Q => t σ H fun x H1 => rPart Q x H1
abbrev uDGet (td ty : TE) : TE := fun σ H Q => td σ H fun x H1 => ty σ H1 fun y H2 => rGetD x y H2 Q
abbrev uDIn (ty td : TE) : TE := fun σ H Q => ty σ H fun y H1 => td σ H1 fun x H2 => rDin y x H2 Q
abbrev uDNotIn (ty td : TE) : TE := fun σ H Q => ty σ H fun y H1 => td σ H1 fun x H2 => rDni y x H2 Q
abbrev uDPut (td ty tv : TE) : TS := fun D σ H => tv σ H fun v H1 => td σ H1 fun x H2 => ty σ H2 fun y H3 => rPutD x y v H3 (D.nx σ)
def rGet1 (ty : TE) (σ : L2.St) (x : V) (H1 : Hp) (Q : VK) : Prop := ∃ a, x = .ref a ∧ IsD H1 a ∧ ty σ H1 fun y H2 => ∃ o, DGet H2 a y o ∧ Q (o.getD .non) H2
abbrev uDGet1 (td ty : TE) : TE := fun σ H Q => td σ H fun x H1 => rGet1 ty σ x H1 Q
def rGet2 (ty tx : TE) (σ : L2.St) (x : V) (H1 : Hp) (Q : VK) : Prop := ∃ a, x = .ref a ∧ IsD H1 a ∧ ty σ H1 fun y H2 => tx σ H2 fun z H3 => ∃ o, DGet H3 a y o ∧ Q (o.getD z) H3
abbrev uDGet2 (td ty tx : TE) : TE := fun σ H Q => td σ H fun x H1 => rGet2 ty tx σ x H1 Q
def rPop1 (ty : TE) (σ : L2.St) (x : V) (H1 : Hp) (Q : VK) : Prop := ∃ a, x = .ref a ∧ IsD H1 a ∧ ty σ H1 fun y H2 => ∃ kvs k v, H2 a = some (.dK kvs) ∧ y = kV k ∧ valV kvs k = some v ∧ Q v (upd H2 a (.dK (dropK kvs k)))
abbrev uDPop1 (td ty : TE) : TE := fun σ H Q => td σ H fun x H1 => rPop1 ty σ x H1 Q
def rBMt (T : String) (r : V → List V → Hp → VK → Prop) (t : TA) (σ : L2.St) (x : V) (H1 : Hp) (Q : VK) : Prop := tyV K T x H1 ∧ t σ H1 fun xs H2 => r x xs H2 Q
abbrev uBM (T : String) (r : V → List V → Hp → VK → Prop) (to : TE) (t : TA) : TE := fun σ H Q => to σ H fun x H1 => rBMt K T r t σ x H1 Q
def rBMt0 (T : String) (r : V → List V → Hp → VK → Prop) (x : V) (H1 : Hp) (Q : VK) : Prop := tyV K T x H1 ∧ r x [] H1 Q
abbrev uBM0 (T : String) (r : V → List V → Hp → VK → Prop) (to : TE) : TE := fun σ H Q => to σ H fun x H1 => rBMt0 K T r x H1 Q
def rM1t (r : V → List V → Hp → VK → Prop) (te : TE) (σ : L2.St) (x : V) (H1 : Hp) (Q : VK) : Prop := (∃ a, x = .str a) ∧ te σ H1 fun y H2 => r x [y] H2 Q
abbrev uM1 (r : V → List V → Hp → VK → Prop) (to te : TE) : TE := fun σ H Q => to σ H fun x H1 => rM1t r te σ x H1 Q
abbrev vSub (to ti : TE) (t : TSet) : TG := fun v σ H Q => to σ H fun o H1 => ti σ H1 fun i H2 => t o i v H2 fun H3 => Q σ H3
abbrev vNil : TGs := gNil
abbrev vCons (t : TG) (u : TGs) : TGs := gCons t u
abbrev vTup (n : Nat) (t : TGs) : TG := gTup K n t
abbrev jRng1 (ta : TA) : TI := fun σ H R => ta σ H fun vs H1 => rRng1 vs H1 R
abbrev jRng2 (ta : TA) : TI := fun σ H R => ta σ H fun vs H1 => rRng2 vs H1 R
abbrev jList (tl : TE) : TI := fun σ H R => tl σ H fun x H1 => rWlk K x H1 R
abbrev uFor (wi : TI) (g : TG) (tb : TS) : TS := fun D σ H => wi σ H fun J H1 => rFor J g tb D σ H1
end
section
variable {K : PySem.W.Frag} {σ : L2.St} {H : Hp} {Q : VK} {f : Str} {ty tx : TE} {tA : TA} {x v : V}
end
section
variable {K : PySem.W.Frag} {σ : L2.St} {H : Hp} {Q : VK} {tA : TA}
theorem x_bmL {p : Addr} {xs : List V} {r : V → List V → Hp → VK → Prop} (h : H p = some (.lst xs)) (q : tA σ H fun ys H2 => r (.ref p) ys H2 Q) : rBMt K "list" r tA σ (.ref p) H Q := ⟨.inl ⟨rfl, _, SqL.of h⟩, q⟩
theorem x_bmL0 {p : Addr} {xs : List V} {r : V → List V → Hp → VK → Prop} (h : H p = some (.lst xs)) (q : r (.ref p) [] H Q) : rBMt0 K "list" r (.ref p) H Q := ⟨.inl ⟨rfl, _, SqL.of h⟩, q⟩
end
theorem freeUpd {H : Hp} {p g : Addr} {o : HO} (h : upd H p o g = none) : H g = none := by
  by_cases e : g = p
  · rw [e, upd_same] at h
    cases h
  · rw [upd_ne e] at h
    exact h
theorem noneSome {H : Hp} {a : Addr} {o : HO} (h : H a = some o) : ¬ H a = none := fun e => by rw [h] at e; cases e
/-- what is free there is free here -/
def Dm (H H' : Hp) : Prop := ∀ a, H' a = none → H a = none
theorem dmRefl {H : Hp} : Dm H H := fun _ h => h
theorem dmSame {H H1 H2 : Hp} (s : Same H1 H2) (d : Dm H H1) : Dm H H2 := fun a h => d a (s.free h)
theorem dmUpd {H H1 : Hp} {p : Addr} {o : HO} (d : Dm H H1) : Dm H (upd H1 p o) := fun a h => d a (freeUpd h)
theorem dmKeep {ms : List Addr} {H H1 H2 : Hp} (e : Keep ms H1 H2) (m : ∀ a ∈ ms, (H2 a).isSome = true) (d : Dm H H1) : Dm H H2 := fun a h => d a (by
  cases q : H1 a with
  | none => rfl
  | some o =>
    by_cases z : a ∈ ms
    · have := m a z
      rw [h] at this
      cases this
    · have := e.k a o z q
      rw [h] at this
      cases this)
theorem dmAt {H H' : Hp} {a : Addr} (d : Dm H H') (h : H' a = none) : H a = none := d a h
theorem freeStep {H H1 : Hp} {g : Addr} (s : Same H H1) (h : H1 g = none) : H g = none := s.free h
theorem keepTr {ms : List Addr} {H H1 H2 : Hp} (b : Keep ms H1 H2) (a : Keep ms H H1) : Keep ms H H2 := a.trans b
theorem keepSm {ms : List Addr} {H H1 H2 : Hp} (b : Same H1 H2) (a : Keep ms H H1) : Keep ms H H2 := a.trans (Keep.of b)
end SP
namespace SP
open PySem PySem.Spec PyProof.Rows L2
abbrev uTryAs (K : PySem.W.Frag) (c : Value) (i : Nat) (tb : WX → TS) (ts : Addr → Value → Option Addr → TS) (Wout : WX) : TS := fun D σ H => tb (wAs K c i ts Wout D) D σ H
abbrev uTryOnly (K : PySem.W.Frag) (c : Value) (tb : WX → TS) (ts : Addr → Value → Option Addr → TS) (Wout : WX) : TS := fun D σ H => tb (wOnly K c ts Wout D) D σ H
end SP

set_option Elab.async false
set_option linter.all false
set_option maxRecDepth 100000
set_option maxHeartbeats 4000000
/-! Disks. -/
namespace SP
open PySem PySem.Spec PyProof.Rows L2
local macro_rules | `(tactic| walk_at "hp") => `(tactic| first
  | assumption
  | exact upd_same
  | (refine' sameAt ?sA ?hA; (case sA => assumption); (case hA => walk_at "hp"))
  | (refine' Eq.trans (upd_ne ?nA) ?hA; (case nA => walk_at "ne"); (case hA => walk_at "hp")))
local macro_rules | `(tactic| walk_at "ne") => `(tactic| first
  | assumption
  | (refine' Ne.symm ?hA; assumption)
  | (refine' ne_of_none (H := _) ?hA (by assumption); walk_at "hp")
  | (refine' Ne.symm (ne_of_none (H := _) ?hA (by assumption)); walk_at "hp")
  | (refine' ne_of ?hA ?hB ?hC; (case hA => assumption); (case hB => walk_at "hp"); (case hC => (intro z; cases z))))
local macro_rules | `(tactic| walk_at "sm") => `(tactic| first
  | exact Same.refl _
  | assumption
  | (refine' sameTr ?sA ?sB; (case sA => assumption); (case sB => walk_at "sm")))
local macro_rules | `(tactic| walk_at "dm") => `(tactic| first
  | exact dmRefl
  | assumption
  | (refine' dmUpd ?dA; (case dA => walk_at "dm"))
  | (refine' dmSame ?sA ?dA; (case sA => assumption); (case dA => walk_at "dm")))
local macro_rules | `(tactic| walk_at "fr") => `(tactic| first
  | assumption
  | (refine' dmAt ?dA ?hA; (case hA => assumption); (case dA => walk_at "dm")))
local macro_rules | `(tactic| walk_at "ab") => `(tactic| (exfalso; refine absurd ?hA (noneSome ?hB); (case hB => walk_at "hp"); (case hA => assumption)))
local macro_rules | `(tactic| walk_at "kp") => `(tactic| first
  | exact Keep.refl
  | assumption
  | (refine' Keep.trans ?kA (keepUpd ?kB ?kC ?kD); (case kB => simp); (case kC => walk_at "hp"); (case kD => (intro xs z; cases z)); (case kA => walk_at "kp"))
  | (refine' keepTr ?kB ?kA; (case kB => assumption); (case kA => walk_at "kp"))
  | (refine' keepSm ?kB ?kA; (case kB => assumption); (case kA => walk_at "kp")))
local macro_rules | `(tactic| walk_at "get") => `(tactic| first
  | (refine' x_get_Files_state ?T ?h ?_) | (refine' x_get_Thing_kind ?T ?h ?_) | (refine' x_get_Thing_entries ?T ?h ?_) | (refine' x_get_Thing_held ?T ?h ?_)
  | (refine' x_get_Files_disk ?T ?h ?_) | (refine' x_get_Files_kept ?T ?h ?_) | (refine' x_get_Files_used ?T ?h ?_)
  | (refine' x_get_Disk_blocks ?T ?h ?_) | (refine' x_get_Disk_log ?T ?h ?_)
  | (refine' x_get_Reader_row ?T ?h ?_) | (refine' x_get_Reader_at ?T ?h ?_) | (refine' x_get_Reader_good ?T ?h ?_)
  | (refine' x_get_Files_slot ?T ?h ?_) | (refine' x_get_Files_turn ?T ?h ?_) | (refine' x_get_Files_is_new ?T ?h ?_))
local macro_rules | `(tactic| walk_at "set") => `(tactic| first
  | ((with_reducible refine' x_set_Disk_blocks ?T ?h ?_); (case T => assumption); (case h => walk_at "hp"))
  | ((with_reducible refine' i_set_Disk_blocks ?T ?h ?_); (case T => assumption); (case h => walk_at "hp"))
  | ((with_reducible refine' x_set_Disk_log ?T ?h ?_); (case T => assumption); (case h => walk_at "hp"))
  | ((with_reducible refine' i_set_Disk_log ?T ?h ?_); (case T => assumption); (case h => walk_at "hp"))
  | ((with_reducible refine' x_set_Thing_kind ?T ?h ?_); (case T => assumption); (case h => walk_at "hp"))
  | ((with_reducible refine' i_set_Thing_kind ?T ?h ?_); (case T => assumption); (case h => walk_at "hp"))
  | ((with_reducible refine' x_set_Thing_held ?T ?h ?_); (case T => assumption); (case h => walk_at "hp"))
  | ((with_reducible refine' i_set_Thing_held ?T ?h ?_); (case T => assumption); (case h => walk_at "hp"))
  | ((with_reducible refine' x_set_Thing_entries ?T ?h ?_); (case T => assumption); (case h => walk_at "hp"))
  | ((with_reducible refine' i_set_Thing_entries ?T ?h ?_); (case T => assumption); (case h => walk_at "hp"))
  | ((with_reducible refine' x_set_Reader_row ?T ?h ?_); (case T => assumption); (case h => walk_at "hp"))
  | ((with_reducible refine' i_set_Reader_row ?T ?h ?_); (case T => assumption); (case h => walk_at "hp"))
  | ((with_reducible refine' x_set_Reader_at ?T ?h ?_); (case T => assumption); (case h => walk_at "hp"))
  | ((with_reducible refine' i_set_Reader_at ?T ?h ?_); (case T => assumption); (case h => walk_at "hp"))
  | ((with_reducible refine' x_set_Reader_good ?T ?h ?_); (case T => assumption); (case h => walk_at "hp"))
  | ((with_reducible refine' i_set_Reader_good ?T ?h ?_); (case T => assumption); (case h => walk_at "hp"))
  | ((with_reducible refine' x_set_Files_disk ?T ?h ?_); (case T => assumption); (case h => walk_at "hp"))
  | ((with_reducible refine' i_set_Files_disk ?T ?h ?_); (case T => assumption); (case h => walk_at "hp"))
  | ((with_reducible refine' x_set_Files_state ?T ?h ?_); (case T => assumption); (case h => walk_at "hp"))
  | ((with_reducible refine' i_set_Files_state ?T ?h ?_); (case T => assumption); (case h => walk_at "hp"))
  | ((with_reducible refine' x_set_Files_kept ?T ?h ?_); (case T => assumption); (case h => walk_at "hp"))
  | ((with_reducible refine' i_set_Files_kept ?T ?h ?_); (case T => assumption); (case h => walk_at "hp"))
  | ((with_reducible refine' x_set_Files_slot ?T ?h ?_); (case T => assumption); (case h => walk_at "hp"))
  | ((with_reducible refine' i_set_Files_slot ?T ?h ?_); (case T => assumption); (case h => walk_at "hp"))
  | ((with_reducible refine' x_set_Files_turn ?T ?h ?_); (case T => assumption); (case h => walk_at "hp"))
  | ((with_reducible refine' i_set_Files_turn ?T ?h ?_); (case T => assumption); (case h => walk_at "hp"))
  | ((with_reducible refine' x_set_Files_used ?T ?h ?_); (case T => assumption); (case h => walk_at "hp"))
  | ((with_reducible refine' i_set_Files_used ?T ?h ?_); (case T => assumption); (case h => walk_at "hp"))
  | ((with_reducible refine' x_set_Files_is_new ?T ?h ?_); (case T => assumption); (case h => walk_at "hp"))
  | ((with_reducible refine' i_set_Files_is_new ?T ?h ?_); (case T => assumption); (case h => walk_at "hp")))
local macro_rules | `(tactic| walk_at "go1") => `(tactic| first
  | ((with_reducible refine w_var (v := ?vv) ?e ?_); (case e => rfl))
  | ((with_reducible walk_at "get"); (case T => assumption); (case h => walk_at "hp"))
  | (with_reducible refine x_bl ?_)
  | (with_reducible refine x_isN ?_) | (with_reducible refine x_notN ?_) | (with_reducible refine x_eqI ?_) | (with_reducible refine x_neI ?_) | (with_reducible refine x_eqS ?_) | (with_reducible refine x_neS ?_)
  | (with_reducible refine x_addI ?_) | (with_reducible refine x_subI ?_) | (with_reducible refine x_ltI ?_) | (with_reducible refine x_leI ?_) | (with_reducible refine x_gtI ?_) | (with_reducible refine x_geI ?_)
  | (with_reducible refine x_bv ?_) | (with_reducible refine x_part ?_) | (with_reducible refine x_neg ?_) | (with_reducible refine x_inS ?_)
  | (walk_at "set")
  | ((with_reducible refine' x_bmL ?h ?_); (case h => walk_at "hp")) | ((with_reducible refine' x_bmL0 ?h ?_); (case h => walk_at "hp")))
local macro_rules | `(tactic| walk_at "go") => `(tactic| ((try with_reducible (conv => whnf)); repeat ((walk_at "go1"); (try with_reducible (conv => whnf)))))
/-! what stands for a disk -/
def oBlk : Option (List Int) → Option (List V)
  | none => none
  | some b => some (b.map V.int)
/-- a block's value -/
def BlkV (H : Hp) : V → Option (List Int) → Prop
  | v, none => v = .non
  | v, some b => ∃ p, v = .ref p ∧ H p = some (.tup (b.map V.int))
theorem BlkV.le {H H' : Hp} (e : Le H H') : ∀ {v : V} {b : Option (List Int)}, BlkV H v b → BlkV H' v b
  | _, none, h => h
  | _, some _, ⟨p, e1, e2⟩ => ⟨p, e1, e.tup e2⟩
/-- an entry of a log -/
inductive Ent where
  | wr (n : Int) (b : List Int)
  | bar
def EntV (H : Hp) (v : V) : Ent → Prop
  | .wr n b => ∃ p q, v = .ref p ∧ H p = some (.tup [.str "write", .int n, .ref q]) ∧ H q = some (.tup (b.map V.int))
  | .bar => ∃ p, v = .ref p ∧ H p = some (.tup [.str "barrier"])
/-- a disk at d, its blocks' list at bl, its log at lg -/
structure DiskAt (K : PySem.W.Frag) (H : Hp) (d bl lg : Addr) (B : List (Option (List Int))) (E : List Ent) : Prop where
  o : ∃ dx, H d = some (oDisk K dx (.ref bl) (.ref lg))
  b : ∃ vs, H bl = some (.lst vs) ∧ Paired (BlkV H) vs B
  l : ∃ vs, H lg = some (.lst vs) ∧ Paired (EntV H) vs E
  ne : bl ≠ lg
theorem BlkV.tu {H H' : Hp} (t : ∀ a xs, H a = some (.tup xs) → H' a = some (.tup xs)) : ∀ {v : V} {b : Option (List Int)}, BlkV H v b → BlkV H' v b
  | _, none, h => h
  | _, some _, ⟨p, e1, e2⟩ => ⟨p, e1, t _ _ e2⟩
theorem EntV.tu {H H' : Hp} (t : ∀ a xs, H a = some (.tup xs) → H' a = some (.tup xs)) : ∀ {v : V} {e : Ent}, EntV H v e → EntV H' v e
  | _, .wr _ _, ⟨p, q, e1, e2, e3⟩ => ⟨p, q, e1, t _ _ e2, t _ _ e3⟩
  | _, .bar, ⟨p, e1, e2⟩ => ⟨p, e1, t _ _ e2⟩
/-- a disk of others stands -/
theorem DiskAt.keep {K : PySem.W.Frag} {H H' : Hp} {d bl lg : Addr} {B : List (Option (List Int))} {E : List Ent} {ms : List Addr} (D : DiskAt K H d bl lg B E) (k : Keep ms H H') (h1 : d ∉ ms) (h2 : bl ∉ ms) (h3 : lg ∉ ms) : DiskAt K H' d bl lg B E := by
  obtain ⟨⟨dx, o⟩, ⟨vs, b, pb⟩, ⟨ws, l, pl⟩, ne⟩ := D
  exact ⟨⟨dx, k.k _ _ h1 o⟩, ⟨vs, k.k _ _ h2 b, L2.Paired.mapP pb fun _ _ z => z.tu k.t⟩, ⟨ws, k.k _ _ h3 l, L2.Paired.mapP pl fun _ _ z => z.tu k.t⟩, ne⟩
theorem DiskAt.same {K : PySem.W.Frag} {H H' : Hp} {d bl lg : Addr} {B : List (Option (List Int))} {E : List Ent} (D : DiskAt K H d bl lg B E) (s : Same H H') : DiskAt K H' d bl lg B E := D.keep (ms := []) (Keep.of s) (by simp) (by simp) (by simp)
theorem DiskAt.neD {K : PySem.W.Frag} {H : Hp} {d bl lg : Addr} {B : List (Option (List Int))} {E : List Ent} (D : DiskAt K H d bl lg B E) : d ≠ bl ∧ d ≠ lg := by
  obtain ⟨⟨dx, o⟩, ⟨vs, b, pb⟩, ⟨ws, l, pl⟩, ne⟩ := D
  exact ⟨ne_of o b (by intro z; cases z), ne_of o l (by intro z; cases z)⟩
theorem flat_one {α : Type} (x : α) : ∀ n : Nat, (List.replicate n [x]).flatten = List.replicate n x
  | 0 => rfl
  | n + 1 => by rw [List.replicate_succ, List.flatten_cons, flat_one x n]; rfl
theorem paired_rep {α β : Type} {F : α → β → Prop} {a : α} {b : β} (h : F a b) : ∀ {n : Nat}, Paired F (List.replicate n a) (List.replicate n b)
  | 0 => .nil
  | n + 1 => .cons h (paired_rep h)
/-! ### Disk.__init__ -/
def sp_Disk___init__ (K : PySem.W.Frag) : Sp := fun vs H Q E => ∃ (p dx : Addr) (n : Int), vs = [.ref p, .int n] ∧ H p = some (.ins (He.ga K "Disk") dx []) ∧
  if 16 ≤ n ∧ n ≤ 256 then ∀ bl lg H', H bl = none → H lg = none → Keep [p] H H' → DiskAt K H' p bl lg (List.replicate n.toNat (some (List.replicate 64 0))) [] → Q .non H'
  else ∀ H', Same H H' → Exn K E "TooGreat" H'
def t_Disk___init__ (K : PySem.W.Frag) (W : WX) : TS := uSeq (uIfS (uNot (uTest (uChain rLeI rLeI (uC (.int 16)) (tVar 1) (uC (.int 256))))) (uRaiseW W (He.ga K "TooGreat")) uNext)
    (uSeq (uFldS K (tVar 0) (uOp rRep (uLst (uCons (uOp (rRepT K) (uTup (uCons (uC (.int 0)) uNil)) (uC (.int 64))) uNil)) (tVar 1)) "blocks")
    (uFldS K (tVar 0) (uLst uNil) "log"))
theorem pure_Disk___init__ {K : PySem.W.Frag} (T : PxDisk K) {vs : List V} {H : Hp} {Q : VK} {E : XK} (h : sp_Disk___init__ K vs H Q E) : t_Disk___init__ K (fun c d _ H => E c d H) (fin Q) (start ["self", "count"] vs) H := by
  obtain ⟨p, dx, n, rfl, hp, k⟩ := h
  show t_Disk___init__ K _ (fin Q) [some (.ref p), some (.int n)] H
  unfold t_Disk___init__
  by_cases c : 16 ≤ n ∧ n ≤ 256
  · rw [if_pos c] at k
    walk_at "go"
    refine x_ifT (decide_eq_true c.1) ?_
    walk_at "go"
    refine x_ifF (by rw [decide_eq_true c.2]; rfl) ?_
    walk_at "go"
    refine x_tup fun t H1 nt ht s1 => ?_
    walk_at "go"
    refine x_repT ht (fun z => by cases z) (by decide) (by decide) (by decide) fun t2 H2 nt2 ht2 s2 => ?_
    walk_at "go"
    refine x_lst fun l H3 nl hl s3 => ?_
    walk_at "go"
    refine x_rep hl (by omega) (by omega) (by rw [sizeLine_eq]; show 1 * n.toNat ≤ _; omega) fun b H4 nb hb s4 => ?_
    walk_at "go"
    refine x_lst fun g H5 ng hg s5 => ?_
    walk_at "go"
    refine k b g _ (by walk_at "fr") (by walk_at "fr") (by walk_at "kp") ⟨⟨dx, upd_same⟩, ⟨(List.replicate n.toNat [V.ref t2]).flatten, by walk_at "hp", ?_⟩, ⟨[], by walk_at "hp", .nil⟩, ?_⟩
    · rw [flat_one]
      have hb : (upd H5 p (HO.ins (He.ga K "Disk") dx [("blocks", V.ref b), ("log", V.ref g)])) t2 = some (.tup ((List.replicate 64 0).map V.int)) := by
        have e : ((List.replicate 64 (0 : Int)).map V.int) = (List.replicate (Int.toNat 64) [V.int 0]).flatten := by rw [flat_one, List.map_replicate] <;> rfl
        rw [e]
        walk_at "hp"
      exact paired_rep ⟨t2, rfl, hb⟩
    · intro z
      subst z
      exact absurd (freeUpd ng) (noneSome hb)
  · rw [if_neg c] at k
    walk_at "go"
    refine x_if (fun h1 => ?_) (fun h1 => ?_)
    · walk_at "go"
      refine x_ifT ?_ ?_
      · have h2 := of_decide_eq_true h1
        rw [decide_eq_false (fun z => c ⟨h2, z⟩)]
        rfl
      · walk_at "go"
        exact k H (Same.refl H)
    · walk_at "go"
      refine x_ifT rfl ?_
      walk_at "go"
      exact k H (Same.refl H)
/-! ### Disk.read, write, barrier -/
def t_Disk_read (K : PySem.W.Frag) (W : WX) : TS := uRet (uOp (rIxL K) (uFld K (tVar 0) "blocks") (tVar 1))
def sp_Disk_read (K : PySem.W.Frag) : Sp := fun vs H Q E => ∃ (p bl lg : Addr) (n : Int) (B : List (Option (List Int))) (L : List Ent) (b : Option (List Int)), vs = [.ref p, .int n] ∧ DiskAt K H p bl lg B L ∧ 0 ≤ n ∧ B[n.toNat]? = some b ∧ ∀ v, BlkV H v b → Q v H
theorem paired_at {α β : Type} {F : α → β → Prop} : ∀ {l1 : List α} {l2 : List β} {i : Nat} {b : β}, Paired F l1 l2 → l2[i]? = some b → ∃ a, l1[i]? = some a ∧ F a b
  | _, _, _, _, .nil, h => by simp at h
  | _, _, 0, _, .cons r _, h => ⟨_, rfl, by simp at h; subst h; exact r⟩
  | _, _, i + 1, b, .cons _ t, h => by
    obtain ⟨a, e, f⟩ := paired_at (i := i) (b := b) t (by simpa using h)
    exact ⟨a, by simpa using e, f⟩
theorem paired_set {α β : Type} {F : α → β → Prop} {a : α} {b : β} (r : F a b) : ∀ {l1 : List α} {l2 : List β} (i : Nat), Paired F l1 l2 → Paired F (l1.set i a) (l2.set i b)
  | _, _, _, .nil => .nil
  | _, _, 0, .cons _ t => .cons r t
  | _, _, i + 1, .cons q t => .cons q (paired_set r i t)
theorem ixN_nat {n : Nat} {i : Int} (h0 : 0 ≤ i) (h : i.toNat < n) : ixN n i = some i.toNat := by
  unfold ixN
  rw [if_pos h0, if_pos (by omega)]
theorem atI_of {α : Type} {xs : List α} {i : Int} {x : α} (h0 : 0 ≤ i) (h : xs[i.toNat]? = some x) : atI xs i = some x := by
  unfold atI
  rw [ixN_nat h0 (List.getElem?_eq_some_iff.mp h).1]
  exact h
theorem pure_Disk_read {K : PySem.W.Frag} (T : PxDisk K) {vs : List V} {H : Hp} {Q : VK} {E : XK} (h : sp_Disk_read K vs H Q E) : t_Disk_read K (WE1 E) (fin Q) (start ["self", "number"] vs) H := by
  obtain ⟨p, bl, lg, n, B, L, b, rfl, ⟨⟨dx, ho⟩, ⟨vs, hb, pb⟩, _, _⟩, h0, hn, k⟩ := h
  show t_Disk_read K _ (fin Q) [some (.ref p), some (.int n)] H
  unfold t_Disk_read
  walk_at "go"
  obtain ⟨v, hv, bv⟩ := paired_at pb hn
  exact x_ixL (SqL.of hb) (atI_of h0 hv) (k v bv)
def t_Disk_write (K : PySem.W.Frag) (W : WX) : TS := uSeq (uAsg (tVar 2) (vSub (uFld K (tVar 0) "blocks") (tVar 1) rSetL))
    (uDrop (uBM K "list" rAppend (uFld K (tVar 0) "log") (uCons (uTup (uCons (uC (.str "write")) (uCons (tVar 1) (uCons (tVar 2) uNil)))) uNil)))
/-- a block is written: its tuple stands at q -/
def sp_Disk_write (K : PySem.W.Frag) : Sp := fun vs H Q E => ∃ (p bl lg q : Addr) (n : Int) (B : List (Option (List Int))) (L : List Ent) (b : List Int), vs = [.ref p, .int n, .ref q] ∧ DiskAt K H p bl lg B L ∧ 0 ≤ n ∧ n.toNat < B.length ∧ L.length ≤ 100000 ∧ H q = some (.tup (b.map V.int)) ∧
  ∀ H', Keep [bl, lg] H H' → DiskAt K H' p bl lg (B.set n.toNat (some b)) (L ++ [.wr n b]) → Q .non H'
theorem Paired.len {α β : Type} {F : α → β → Prop} : ∀ {l1 : List α} {l2 : List β}, Paired F l1 l2 → l1.length = l2.length
  | _, _, .nil => rfl
  | _, _, .cons _ t => by rw [List.length_cons, List.length_cons, Paired.len t]
theorem pure_Disk_write {K : PySem.W.Frag} (T : PxDisk K) {vs : List V} {H : Hp} {Q : VK} {E : XK} (h : sp_Disk_write K vs H Q E) : t_Disk_write K (WE1 E) (fin Q) (start ["self", "number", "block"] vs) H := by
  obtain ⟨p, bl, lg, q, n, B, L, b, rfl, D, h0, hn, hl, hq, k⟩ := h
  obtain ⟨np, np2⟩ := D.neD
  obtain ⟨⟨dx, ho⟩, ⟨vs, hb, pb⟩, ⟨ws, hw, pw⟩, ne⟩ := D
  show t_Disk_write K _ (fin Q) [some (.ref p), some (.int n), some (.ref q)] H
  unfold t_Disk_write
  walk_at "go"
  refine x_setL hb (ixN_nat h0 (by rw [Paired.len pb]; exact hn)) ?_
  walk_at "go"
  refine x_tup fun t H1 nt ht s1 => ?_
  walk_at "go"
  have hq2 : ∀ {o : HO}, upd H bl o q = some (.tup (b.map V.int)) := fun {o} => by
    rw [upd_ne (ne_of hq hb (by intro z; cases z))]
    exact hq
  refine x_app (xs := ws) (by walk_at "hp") (Nat.lt_of_le_of_lt (by rw [Paired.len pw]; exact hl) (by rw [sizeLine_eq]; decide)) ?_
  have kk : Keep [bl, lg] H (upd H1 lg (.lst (ws ++ [.ref t]))) := by walk_at "kp"
  refine k _ kk ⟨⟨dx, kk.k _ _ (by simp [np, np2]) ho⟩, ⟨vs.set n.toNat (.ref q), ?_, ?_⟩, ⟨ws ++ [.ref t], upd_same, ?_⟩, ne⟩
  · rw [upd_ne ne]
    exact s1 _ _ upd_same
  · exact paired_set (F := BlkV _) (b := some b) ⟨q, rfl, kk.t _ _ hq⟩ _ (L2.Paired.mapP pb fun _ _ z => z.tu kk.t)
  · refine Paired.snoc (L2.Paired.mapP pw fun _ _ z => z.tu kk.t) ⟨t, q, rfl, ?_, kk.t _ _ hq⟩
    rw [upd_ne (ne_of ht (s1 _ _ (show (upd H bl _) lg = some (.lst ws) by rw [upd_ne (Ne.symm ne)]; exact hw)) (by intro z; cases z))]
    exact ht
def t_Disk_barrier (K : PySem.W.Frag) (W : WX) : TS := uDrop (uBM K "list" rAppend (uFld K (tVar 0) "log") (uCons (uTup (uCons (uC (.str "barrier")) uNil)) uNil))
def sp_Disk_barrier (K : PySem.W.Frag) : Sp := fun vs H Q E => ∃ (p bl lg : Addr) (B : List (Option (List Int))) (L : List Ent), vs = [.ref p] ∧ DiskAt K H p bl lg B L ∧ L.length ≤ 100000 ∧
  ∀ H', Keep [lg] H H' → DiskAt K H' p bl lg B (L ++ [.bar]) → Q .non H'
theorem pure_Disk_barrier {K : PySem.W.Frag} (T : PxDisk K) {vs : List V} {H : Hp} {Q : VK} {E : XK} (h : sp_Disk_barrier K vs H Q E) : t_Disk_barrier K (WE1 E) (fin Q) (start ["self"] vs) H := by
  obtain ⟨p, bl, lg, B, L, rfl, D, hl, k⟩ := h
  obtain ⟨np, np2⟩ := D.neD
  obtain ⟨⟨dx, ho⟩, ⟨vs, hb, pb⟩, ⟨ws, hw, pw⟩, ne⟩ := D
  show t_Disk_barrier K _ (fin Q) [some (.ref p)] H
  unfold t_Disk_barrier
  walk_at "go"
  refine x_tup fun t H1 nt ht s1 => ?_
  walk_at "go"
  refine x_app (xs := ws) (by walk_at "hp") (Nat.lt_of_le_of_lt (by rw [Paired.len pw]; exact hl) (by rw [sizeLine_eq]; decide)) ?_
  have kk : Keep [lg] H (upd H1 lg (.lst (ws ++ [.ref t]))) := by walk_at "kp"
  refine k _ kk ⟨⟨dx, kk.k _ _ (by simp [np2]) ho⟩, ⟨vs, kk.k _ _ (by simp [ne]) hb, L2.Paired.mapP pb fun _ _ z => z.tu kk.t⟩, ⟨ws ++ [.ref t], upd_same, ?_⟩, ne⟩
  refine Paired.snoc (L2.Paired.mapP pw fun _ _ z => z.tu kk.t) ⟨t, rfl, ?_⟩
  rw [upd_ne (ne_of ht (s1 _ _ hw) (by intro z; cases z))]
  exact ht
end SP

set_option Elab.async false
set_option linter.all false
set_option maxRecDepth 100000
set_option maxHeartbeats 4000000
/-! Defs called in an except suite that take the exception itself; counts over flat items; isinstance there. -/
namespace SP
open PySem PySem.Spec PyProof.Rows L2 L2H

/-! ### list.count of flat items -/
section
variable {X : Cx}
def rCntF (K : PySem.W.Frag) : V → List V → Hp → VK → Prop := fun x xs H Q => ∃ (a : Addr) (ys : List V) (y : V), x = V.ref a ∧ xs = [y] ∧ SqL K H a ys ∧ flatV y = true ∧ ys.all flatV = true ∧ Q (.int ((ys.countP fun z => eqV z y : Nat) : Int)) H
theorem count_eqU {x : V} : ∀ {xs : List V} {us : List Value}, Vals xs us → xs.all flatV = true → us.countP (eqU x) = xs.countP fun y => eqV y x
  | _, _, .nil, _ => rfl
  | x0 :: xs, u0 :: us, .cons r t, f => by
    rw [List.all_cons, Bool.and_eq_true] at f
    rw [List.countP_cons, List.countP_cons, eqU_of r f.1, count_eqU t f.2]
theorem mt_countF : MtR X "list.count" (rCntF X.K) := by
  intro pins s σ H x xs v us Q I rx rxs h
  obtain ⟨a, ys, y, rfl, rfl, hs, fy, fys, q⟩ := h
  cases rx
  cases rxs with
  | cons ry rt =>
    rename_i uy ut
    cases rt
    obtain ⟨its, rv, ⟨⟨cls, dd, data, sl⟩, n, ho, hc, hdn, hd⟩, hlen⟩ := I.list hs
    simp only at hc hd
    subst hc hd
    refine call_meets PySem.F.slot_list_count ⟨_, ho, rfl⟩ PySem.F.entry_list_count (PySem.F.args_list_count_2 _ _)
      (SeqAt.list_countAt a its.toArray n dd sl uy (eqU y)) ⟨ho, fun u' hu' => mem_eqAt ry fy rv fys u' (by simpa using hu'), ?_⟩
    have ec : its.toArray.toList.countP (eqU y) = ys.countP fun z => eqV z y := count_eqU rv fys
    refine ⟨.int ((ys.countP fun z => eqV z y : Nat) : Int), H, I.tok _, ⟨s.toks, ?_⟩, q⟩
    show Value.int ((its.toArray.toList.countP (eqU y) : Nat) : Int) s.toks = _
    rw [ec]
end

/-! ### a def in an except suite that is handed the exception -/
structure FnP (P : Program) (w : World) (K : PySem.W.Frag) (mg : Str → Option Value) (base : Heap) (k : Nat) (f : Addr) (fd : FuncData) (ps : List Str) (sp : Addr × Obj → Sp) : Prop where
  len : ∀ p vs H Q E, sp p vs H Q E → vs.length = ps.length
  run : ∀ (A : Around) (outer : List Env) (s : Shared) (H : Hp) (args : Args) (us : List Value) (vs : List V) (Q : VK) (E : XK) (p : Addr × Obj), RoomH k A → PinOk outer H s p → Env0 P w K mg base A outer s H → BindsTo s fd args (ps.zip us) → Vals vs us → sp p vs H Q E →
    codeAny (model P w) A (.call (.ref f) args) (CR (L2.CX P w) outer P w H s Q E) s
theorem fn_ofP {P : Program} {w : World} {K : PySem.W.Frag} {mg : Str → Option Value} {base : Heap} {k : Nat} {f : Addr} {name qual : Str} {params : Arguments} {body : List Stmt} {scope : Scope} {fd : FuncData}
    {N ps : List Str} {sp : Addr × Obj → Sp} (F : FunD K name qual params body scope [] [] f fd) (S : FnScope N ps scope)
    (len : ∀ p vs H Q E, sp p vs H Q E → vs.length = ps.length)
    (hbody : ∀ (cdv : Value) (A : Around) (outer : List Env) (s : Shared) (H : Hp) (vs : List V) (Q : VK) (E : XK) (p : Addr × Obj), RoomH k (A.deeper (envOfC qual scope s.heap.objs.size f cdv)) → sp p vs H Q E →
      ∃ t, PSs (cxH (L2.CX P w) P w K mg base N qual scope f cdv A outer s H E p) body t ∧ t { nx := fun _ H' => Q .non H', rt := Q } (L2.start N vs) H) :
    FnP P w K mg base (k + 1) f fd ps sp := by
  obtain ⟨oc, od, dV, kV, doc, pm, an, cdv, ct, osl, rfl, lk, hcd, _, _⟩ := F.ex
  refine ⟨len, fun A outer s H args us vs Q E p hr hpin e0 hb r hsp => ?_⟩
  have hl := len _ _ _ _ _ hsp
  have KX : K.In s.heap := e0.mod.kin.keeps fun b o e => (e0.bs b o e).1
  have lim : s.heap.NoLimit := e0.mod.nolimit.keeps fun b o e => (e0.bs b o e).1
  have hkind : ∀ y ∈ ps.zip us, scope.names.lookup y.1 = some .local ∨ (scope.names.lookup y.1 = some .cell ∧ ((cellsFrom (s.heap.objs.size + 1) scope.names []).lookup y.1).isSome = true) := fun ⟨n, v⟩ hy => by
    rcases S.par n (List.of_mem_zip hy).1 with q | q
    · exact .inl q
    · exact .inr ⟨q, PySem.W.cellsFrom_some _ _ _ (.inl q)⟩
  refine codeAny_call_function hr.depth (KX _ _ lk) rfl S.co S.gen rfl (PySem.W.codeRec_of KX hcd) (hb _ _ _ _ ?_)
  refine wpAny_newFunctionEnv_cells S.kind hkind fun env he s1 x => ?_
  subst he
  refine ⟨lim.keeps x.toInCall.keep, codeAny_func ?_⟩
  obtain ⟨t, ht, hq⟩ := hbody cdv A outer s H vs Q E p (hr.deeper _) hsp
  have I : Inv (cxH (L2.CX P w) P w K mg base N qual scope f cdv A outer s H E p) [] (L2.start N vs) H s1 := inv_startH S hpin e0 hl r x
  refine wpAny_mono (ht.run [] s1 (L2.start N vs) H _ I hq) (fun fl s' hs => ?_) fun e s' hs => hs
  have fin : ∀ {σ' : L2.St} {H' : Hp} {v : V} {u : Value}, Inv (cxH (L2.CX P w) P w K mg base N qual scope f cdv A outer s H E p) [] σ' H' s' → RelV v u → Q v H' → CE outer P w H s Q u s' :=
    fun {σ' H' v u} J rv q => ⟨v, H', J.os, J.bare, J.base, J.hok, rv, q⟩
  cases fl with
  | ret u =>
    obtain ⟨v, σ', H', J, rv, q⟩ := hs
    exact fin J rv q
  | next =>
    obtain ⟨σ', H', J, q⟩ := hs
    exact fin (v := V.non) (u := Value.none) J rfl q
  | brk =>
    obtain ⟨_, _, _, q⟩ := hs
    exact False.elim q
  | cont =>
    obtain ⟨_, _, _, q⟩ := hs
    exact False.elim q
section
variable {X : Cx} {k : Nat} {f : Addr} {fd : FuncData} {ps : List Str} {sp : Addr × Obj → Sp} {x : Str} {q pos : Pos} {e : Expr} {es : List Expr} {t : TA} {p : Addr × Obj}
def tCallP (sp : Sp) (t : TA) : TE := fun σ H Q => t σ H fun vs H1 => sp vs H1 Q fun _ _ _ => False
theorem pe_callP (F : FnP X.prog X.w X.K X.mg X.base k f fd ps sp) (hr : RoomH k X.A) (hp : p ∈ X.pn) (hm : X.mg x = some (.ref f)) (hk : PySem.W.keepIn X.K (.ref f) = true) (hb : Binds X.K fd ps [])
    (ha : PA X (e :: es) t) (hg : Gl X x := by rfl) (hdb : (x == ("__debug__" : Str)) = false := by decide) (he : starEach (e :: es) X.env = (false, eval e X.env) :: starEach es X.env := by rfl) (hpl : (backTo pos (starEach es X.env)).any (·.1) = false := by rfl) :
    PE X (.Call (.Name x q) (e :: es) [] pos) (tCallP (sp p) t) := by
  refine ⟨fun pins s σ H Q I h => ?_⟩
  refine wpAny_Call_Name_kw (ld_glob I hg hm ?_ hdb)
  refine PySem.W.callWith_K (h₀ := X.base) I.ok.mod.kin hk (thn (ha.run pos pins s σ H _ I h) fun us s1 ⟨vs, H1, I1, r, q⟩ => ⟨I1.kIn, ?_⟩) he hpl
  have hl : us.length = ps.length := by rw [← r.length]; exact F.len _ _ _ _ _ q
  have b := hb s1 us I1.kIn (by rw [List.append_nil]; exact hl)
  rw [List.append_nil] at b
  have P1 := I1.pin p (List.mem_append_left _ hp)
  have hpin : PinOk X.stack H1 s1 p := ⟨P1.1, P1.2.1, fun hm => (List.mem_cons.mp (I1.stkSub p.1 hm)).elim P1.2.2.1 P1.2.2.2.1, P1.2.2.2.2⟩
  refine wpAny_call (codeAny_mono (F.run X.A X.stack s1 H1 ⟨us, []⟩ us vs Q _ p hr hpin I1.env0 b r q) fun r s' hq => ?_)
  cases r with
  | error e => exact (passAt (W := fun _ _ _ _ => False) takes0 σ pins H1 s1 e s' I1 hq)
  | ok fl =>
    cases fl with
    | ret u => exact I1.after hq
    | next => exact False.elim hq
    | brk => exact False.elim hq
    | cont => exact False.elim hq
/-- isinstance of the exception that is pinned -/
theorem call_isP {a D : Addr} {oe : Obj} (C : ExcC X.K D) (hz : Zc (.ref D) none oe) (hf : ∃ vs, oe.data = .fields vs) (hp : (a, oe) ∈ X.pn) : CallR X (.builtin "isinstance") (rIsE X.K D a) := by
  intro pins s σ H xs us Q I r h
  obtain ⟨c, cv, b, rfl, hcv, e, q⟩ := h
  cases r with
  | cons rx rr =>
    cases rr with
    | cons rt rr =>
      cases rr
      cases rx
      have ec := hcv _ rt
      subst ec
      obtain ⟨hget, _⟩ := I.pin (a, oe) (List.mem_append.mpr (.inl hp))
      obtain ⟨vs, hv⟩ := hf
      have J : PySem.W.InstAt s.heap a oe D none := by
        obtain ⟨oc, od, oda, osl⟩ := oe
        obtain ⟨h1, h2⟩ := hz
        dsimp only at h1 h2 hv
        subst h1 h2 hv
        exact ⟨hget, rfl, rfl, trivial⟩
      exact PySem.W.kia_one (PySem.W.handS_kitx_exc C.hg C.hk C.hs C.hd C.ha C.hn C.ht C.hm) I.kIn J e (fun z => nomatch z) fun tk => ⟨.bl b, H, I.kept (t' := tk) fun _ _ z => z, rfl, q⟩
end
theorem roomP {k : Nat} {A : Around} (r : Room k A) (hd : Option Value) : RoomH k (A.mark hd) := ⟨r.dp, r.un⟩
end SP

set_option Elab.async false
set_option linter.all false
set_option maxRecDepth 100000
set_option maxHeartbeats 4000000
/-! What every law has: cells, drawn numbers, the word of a refusal. -/
namespace SP
open PySem PySem.Spec PyProof.Rows L2
local macro_rules | `(tactic| walk_at "hp") => `(tactic| first
  | assumption
  | exact upd_same
  | (refine' sameAt ?sA ?hA; (case sA => assumption); (case hA => walk_at "hp"))
  | (refine' Eq.trans (upd_ne ?nA) ?hA; (case nA => walk_at "ne"); (case hA => walk_at "hp")))
local macro_rules | `(tactic| walk_at "ne") => `(tactic| first
  | assumption
  | (refine' Ne.symm ?hA; assumption)
  | (refine' ne_of_none (H := _) ?hA (by assumption); walk_at "hp")
  | (refine' Ne.symm (ne_of_none (H := _) ?hA (by assumption)); walk_at "hp")
  | (refine' ne_of ?hA ?hB ?hC; (case hA => assumption); (case hB => walk_at "hp"); (case hC => (intro z; cases z))))
local macro_rules | `(tactic| walk_at "sm") => `(tactic| first
  | exact Same.refl _
  | assumption
  | (refine' sameTr ?sA ?sB; (case sA => assumption); (case sB => walk_at "sm")))
local macro_rules | `(tactic| walk_at "dm") => `(tactic| first
  | exact dmRefl
  | assumption
  | (refine' dmUpd ?dA; (case dA => walk_at "dm"))
  | (refine' dmSame ?sA ?dA; (case sA => assumption); (case dA => walk_at "dm")))
local macro_rules | `(tactic| walk_at "fr") => `(tactic| first
  | assumption
  | (refine' dmAt ?dA ?hA; (case hA => assumption); (case dA => walk_at "dm")))
local macro_rules | `(tactic| walk_at "ab") => `(tactic| (exfalso; refine absurd ?hA (noneSome ?hB); (case hB => walk_at "hp"); (case hA => assumption)))
local macro_rules | `(tactic| walk_at "kp") => `(tactic| first
  | exact Keep.refl
  | assumption
  | (refine' Keep.trans ?kA (keepUpd ?kB ?kC ?kD); (case kB => simp); (case kC => walk_at "hp"); (case kD => (intro xs z; cases z)); (case kA => walk_at "kp"))
  | (refine' keepTr ?kB ?kA; (case kB => assumption); (case kA => walk_at "kp"))
  | (refine' keepSm ?kB ?kA; (case kB => assumption); (case kA => walk_at "kp")))
local macro_rules | `(tactic| walk_at "get") => `(tactic| first
  | (refine' x_get_Files_state ?T ?h ?_) | (refine' x_get_Thing_kind ?T ?h ?_) | (refine' x_get_Thing_entries ?T ?h ?_) | (refine' x_get_Thing_held ?T ?h ?_)
  | (refine' x_get_Files_disk ?T ?h ?_) | (refine' x_get_Files_kept ?T ?h ?_) | (refine' x_get_Files_used ?T ?h ?_)
  | (refine' x_get_Disk_blocks ?T ?h ?_) | (refine' x_get_Disk_log ?T ?h ?_)
  | (refine' x_get_Reader_row ?T ?h ?_) | (refine' x_get_Reader_at ?T ?h ?_) | (refine' x_get_Reader_good ?T ?h ?_)
  | (refine' x_get_Files_slot ?T ?h ?_) | (refine' x_get_Files_turn ?T ?h ?_) | (refine' x_get_Files_is_new ?T ?h ?_))
local macro_rules | `(tactic| walk_at "set") => `(tactic| first
  | ((with_reducible refine' x_set_Disk_blocks ?T ?h ?_); (case T => assumption); (case h => walk_at "hp"))
  | ((with_reducible refine' i_set_Disk_blocks ?T ?h ?_); (case T => assumption); (case h => walk_at "hp"))
  | ((with_reducible refine' x_set_Disk_log ?T ?h ?_); (case T => assumption); (case h => walk_at "hp"))
  | ((with_reducible refine' i_set_Disk_log ?T ?h ?_); (case T => assumption); (case h => walk_at "hp"))
  | ((with_reducible refine' x_set_Thing_kind ?T ?h ?_); (case T => assumption); (case h => walk_at "hp"))
  | ((with_reducible refine' i_set_Thing_kind ?T ?h ?_); (case T => assumption); (case h => walk_at "hp"))
  | ((with_reducible refine' x_set_Thing_held ?T ?h ?_); (case T => assumption); (case h => walk_at "hp"))
  | ((with_reducible refine' i_set_Thing_held ?T ?h ?_); (case T => assumption); (case h => walk_at "hp"))
  | ((with_reducible refine' x_set_Thing_entries ?T ?h ?_); (case T => assumption); (case h => walk_at "hp"))
  | ((with_reducible refine' i_set_Thing_entries ?T ?h ?_); (case T => assumption); (case h => walk_at "hp"))
  | ((with_reducible refine' x_set_Reader_row ?T ?h ?_); (case T => assumption); (case h => walk_at "hp"))
  | ((with_reducible refine' i_set_Reader_row ?T ?h ?_); (case T => assumption); (case h => walk_at "hp"))
  | ((with_reducible refine' x_set_Reader_at ?T ?h ?_); (case T => assumption); (case h => walk_at "hp"))
  | ((with_reducible refine' i_set_Reader_at ?T ?h ?_); (case T => assumption); (case h => walk_at "hp"))
  | ((with_reducible refine' x_set_Reader_good ?T ?h ?_); (case T => assumption); (case h => walk_at "hp"))
  | ((with_reducible refine' i_set_Reader_good ?T ?h ?_); (case T => assumption); (case h => walk_at "hp"))
  | ((with_reducible refine' x_set_Files_disk ?T ?h ?_); (case T => assumption); (case h => walk_at "hp"))
  | ((with_reducible refine' i_set_Files_disk ?T ?h ?_); (case T => assumption); (case h => walk_at "hp"))
  | ((with_reducible refine' x_set_Files_state ?T ?h ?_); (case T => assumption); (case h => walk_at "hp"))
  | ((with_reducible refine' i_set_Files_state ?T ?h ?_); (case T => assumption); (case h => walk_at "hp"))
  | ((with_reducible refine' x_set_Files_kept ?T ?h ?_); (case T => assumption); (case h => walk_at "hp"))
  | ((with_reducible refine' i_set_Files_kept ?T ?h ?_); (case T => assumption); (case h => walk_at "hp"))
  | ((with_reducible refine' x_set_Files_slot ?T ?h ?_); (case T => assumption); (case h => walk_at "hp"))
  | ((with_reducible refine' i_set_Files_slot ?T ?h ?_); (case T => assumption); (case h => walk_at "hp"))
  | ((with_reducible refine' x_set_Files_turn ?T ?h ?_); (case T => assumption); (case h => walk_at "hp"))
  | ((with_reducible refine' i_set_Files_turn ?T ?h ?_); (case T => assumption); (case h => walk_at "hp"))
  | ((with_reducible refine' x_set_Files_used ?T ?h ?_); (case T => assumption); (case h => walk_at "hp"))
  | ((with_reducible refine' i_set_Files_used ?T ?h ?_); (case T => assumption); (case h => walk_at "hp"))
  | ((with_reducible refine' x_set_Files_is_new ?T ?h ?_); (case T => assumption); (case h => walk_at "hp"))
  | ((with_reducible refine' i_set_Files_is_new ?T ?h ?_); (case T => assumption); (case h => walk_at "hp")))
local macro_rules | `(tactic| walk_at "go1") => `(tactic| first
  | ((with_reducible refine w_var (v := ?vv) ?e ?_); (case e => rfl))
  | ((with_reducible walk_at "get"); (case T => assumption); (case h => walk_at "hp"))
  | (with_reducible refine x_bl ?_)
  | (with_reducible refine x_isN ?_) | (with_reducible refine x_notN ?_) | (with_reducible refine x_eqI ?_) | (with_reducible refine x_neI ?_) | (with_reducible refine x_eqS ?_) | (with_reducible refine x_neS ?_)
  | (with_reducible refine x_addI ?_) | (with_reducible refine x_subI ?_) | (with_reducible refine x_ltI ?_) | (with_reducible refine x_leI ?_) | (with_reducible refine x_gtI ?_) | (with_reducible refine x_geI ?_)
  | (with_reducible refine x_bv ?_) | (with_reducible refine x_part ?_) | (with_reducible refine x_neg ?_) | (with_reducible refine x_inS ?_)
  | (walk_at "set")
  | ((with_reducible refine' x_bmL ?h ?_); (case h => walk_at "hp")) | ((with_reducible refine' x_bmL0 ?h ?_); (case h => walk_at "hp")))
local macro_rules | `(tactic| walk_at "go") => `(tactic| ((try with_reducible (conv => whnf)); repeat ((walk_at "go1"); (try with_reducible (conv => whnf)))))
def cell (ns : List Int) (k : Int) : Int := if ns = [] then k * 7919 else (ns.getD (k % ns.length).toNat 0) + k / ns.length * 104729
def sp__law_cell (K : PySem.W.Frag) : Sp := fun vs H Q E => ∃ (a : Addr) (ns : List Int) (k : Int), vs = [.ref a, .int k] ∧ SqL K H a (ns.map V.int) ∧ ns.length ≤ 63 ∧ 0 ≤ k ∧ k < 1000000 ∧ ∀ H', Same H H' → Q (.int (cell ns k)) H'
def t__law_cell (K : PySem.W.Frag) (W : WX) : TS := uSeq (uIfS (uTest (uOp (rEqD K) (tVar 0) (uLst uNil))) (uRet (uOp rMulI (tVar 1) (uC (.int 7919)))) uNext)
    (uRet (uOp rAddI (uOp (rIxL K) (tVar 0) (uOp rModI (tVar 1) (uCB (cLenQ K) (uCons (tVar 0) uNil)))) (uOp rMulI (uOp rDivI (tVar 1) (uCB (cLenQ K) (uCons (tVar 0) uNil))) (uC (.int 104729)))))
theorem dpAll_ints {K : PySem.W.Frag} {H : Hp} : ∀ ns : List Int, DpAll K H (ns.map V.int) (ns.map PyData.int)
  | [] => .nil
  | n :: r => .cons (.int n) (dpAll_ints r)
/-- data of a depth -/
structure Shp (n : Nat) (d : PyData) : Prop where
  c : d.canLay0 = true
  d : d.depth ≤ n
theorem Shp.ok {n : Nat} {d : PyData} (h : Shp n d) (hn : n ≤ 64) : SeqAt.shaped d = true := by
  unfold SeqAt.shaped
  rw [h.c, decide_eq_true (Nat.le_trans h.d hn)]
  rfl
theorem Shp.mono {n m : Nat} {d : PyData} (h : Shp n d) (hn : n ≤ m) : Shp m d := ⟨h.c, Nat.le_trans h.d hn⟩
theorem shp_all {n : Nat} : ∀ {xs : List PyData}, (∀ x ∈ xs, Shp n x) → PyData.canLayAll0 xs = true ∧ PyData.depthAll xs ≤ n
  | [], _ => ⟨by simp [PyData.canLayAll0], by simp [PyData.depthAll]⟩
  | x :: r, h => by
    have h1 := h x List.mem_cons_self
    have h2 := shp_all (n := n) (xs := r) fun y hy => h y (List.mem_cons_of_mem _ hy)
    refine ⟨by simp [PyData.canLayAll0, h1.c, h2.1], ?_⟩
    simp only [PyData.depthAll]
    exact Nat.max_le.mpr ⟨h1.d, h2.2⟩
theorem Shp.list {n : Nat} {xs : List PyData} (h : ∀ x ∈ xs, Shp n x) : Shp (n + 1) (.list xs) := ⟨by simp only [PyData.canLay0]; exact (shp_all h).1, by simp only [PyData.depth]; exact Nat.succ_le_succ (shp_all h).2⟩
theorem Shp.tuple {n : Nat} {xs : List PyData} (h : ∀ x ∈ xs, Shp n x) : Shp (n + 1) (.tuple xs) := ⟨by simp only [PyData.canLay0]; exact (shp_all h).1, by simp only [PyData.depth]; exact Nat.succ_le_succ (shp_all h).2⟩
theorem Shp.int {n : Nat} (i : Int) : Shp n (.int i) := ⟨by simp [PyData.canLay0], by simp [PyData.depth]⟩
theorem Shp.none {n : Nat} : Shp n .none := ⟨by simp [PyData.canLay0], by simp [PyData.depth]⟩
theorem shaped_ints (ns : List Int) : SeqAt.shaped (.list (ns.map PyData.int)) = true := (Shp.list (n := 0) fun x hx => by
  obtain ⟨i, _, rfl⟩ := List.mem_map.mp hx
  exact Shp.int i).ok (by decide)
theorem pure__law_cell {K : PySem.W.Frag} {vs : List V} {H : Hp} {Q : VK} {E : XK} (h : sp__law_cell K vs H Q E) : t__law_cell K (WE1 E) (fin Q) (start ["_law_script", "_law_k"] vs) H := by
  obtain ⟨a, ns, k, rfl, hS, hl, h0, h1, q⟩ := h
  show t__law_cell K _ (fin Q) [some (.ref a), some (.int k)] H
  unfold t__law_cell
  walk_at "go"
  refine x_lst fun e H1 ne he s1 => ?_
  walk_at "go"
  refine x_eqD (.lst (s1.seq hS) (dpAll_ints ns)) (.lst (SqL.of he) .nil) (shaped_ints ns) rfl ?_
  walk_at "go"
  cases ns with
  | nil =>
    refine x_ifT rfl ?_
    walk_at "go"
    refine x_mulI (.inr ⟨by decide, by decide⟩) ?_
    exact q H1 s1
  | cons n r =>
    refine x_ifF rfl ?_
    walk_at "go"
    refine ⟨_, _, rfl, .inl (s1.seq hS), ?_⟩
    have hp : (0 : Int) < ((List.map V.int (n :: r)).length : Int) := by rw [List.length_map, List.length_cons]; omega
    have hL : ((List.map V.int (n :: r)).length : Int) = ((n :: r).length : Int) := by rw [List.length_map]
    refine x_modI hp ?_
    have hm0 := Int.emod_nonneg k (Int.ne_of_gt hp)
    have hm1 := Int.emod_lt_of_pos k hp
    have hm2 : (k % ((List.map V.int (n :: r)).length : Int)).toNat < (n :: r).length := by rw [hL] at hm1 ⊢; omega
    refine x_ixL (v := .int ((n :: r).getD (k % ((List.map V.int (n :: r)).length : Int)).toNat 0)) (s1.seq hS) (atI_of hm0 ?_) ?_
    · rw [List.getElem?_map, List.getElem?_eq_getElem hm2, List.getD_eq_getElem?_getD, List.getElem?_eq_getElem hm2]
      rfl
    walk_at "go"
    refine ⟨_, _, rfl, .inl (s1.seq hS), ?_⟩
    refine x_divI ⟨hp, by rw [hL]; omega⟩ ?_
    walk_at "go"
    refine x_mulI (.inr ⟨by decide, by decide⟩) ?_
    walk_at "go"
    have e : cell (n :: r) k = (n :: r).getD (k % ((List.map V.int (n :: r)).length : Int)).toNat 0 + k / ((List.map V.int (n :: r)).length : Int) * 104729 := by
      unfold cell
      rw [if_neg (by simp), hL]
    rw [← e]
    exact q H1 s1
def drawn (c k : Int) : Int := (((c * 6364136223846793005 + (k + 1) * 1442695040888963407) % 340282366920938463463374607431768211507) * ((c * 6364136223846793005 + (k + 1) * 1442695040888963407) % 340282366920938463463374607431768211507)) % 340282366920938463463374607431768211297
theorem drawn_nn (c k : Int) : 0 ≤ drawn c k ∧ drawn c k < 340282366920938463463374607431768211297 := ⟨Int.emod_nonneg _ (by decide), Int.emod_lt_of_pos _ (by decide)⟩
def sp__law_drawn (K : PySem.W.Frag) : Sp := fun vs H Q E => ∃ (c k : Int), vs = [.int c, .int k] ∧ Q (.int (drawn c k)) H
def t__law_drawn (K : PySem.W.Frag) (W : WX) : TS := uSeq (uAsg (uOp rModI (uOp rAddI (uOp rMulI (tVar 0) (uC (.int 6364136223846793005))) (uOp rMulI (uOp rAddI (tVar 1) (uC (.int 1))) (uC (.int 1442695040888963407)))) (uC (.int 340282366920938463463374607431768211507))) (vName 2))
    (uRet (uOp rModI (uOp rMulX (tVar 2) (tVar 2)) (uC (.int 340282366920938463463374607431768211297))))
theorem pure__law_drawn {K : PySem.W.Frag} {vs : List V} {H : Hp} {Q : VK} {E : XK} (h : sp__law_drawn K vs H Q E) : t__law_drawn K (WE1 E) (fin Q) (start ["_law_cell_here", "_law_k", "_law_more"] vs) H := by
  obtain ⟨c, k, rfl, q⟩ := h
  show t__law_drawn K _ (fin Q) [some (.int c), some (.int k), none] H
  unfold t__law_drawn
  walk_at "go"
  refine x_mulI (.inr ⟨by decide, by decide⟩) ?_
  walk_at "go"
  refine x_mulI (.inr ⟨by decide, by decide⟩) ?_
  walk_at "go"
  refine x_modI (by decide) ?_
  walk_at "go"
  have h0 := Int.emod_nonneg (c * 6364136223846793005 + (k + 1) * 1442695040888963407) (show (340282366920938463463374607431768211507 : Int) ≠ 0 by decide)
  have h1 := Int.emod_lt_of_pos (c * 6364136223846793005 + (k + 1) * 1442695040888963407) (show (0 : Int) < 340282366920938463463374607431768211507 by decide)
  have hb : ((c * 6364136223846793005 + (k + 1) * 1442695040888963407) % 340282366920938463463374607431768211507).natAbs < 2 ^ 129 := by
    have e : (2 : Nat) ^ 129 = 680564733841876926926749214863536422912 := by decide
    rw [e]
    omega
  refine x_mulX (wide_mul hb hb (by decide) (by decide) (by decide)) ?_
  refine x_modI (by decide) ?_
  exact q
/-! ### the word of a refusal -/
def ten : List Str := ["NoThing", "NoDirectory", "BadName", "IsThere", "NoRoom", "NotEmpty", "WrongKind", "TooGreat", "ReadOnly", "NoFiles"]
/-- what the ten classes say -/
structure XK10 (K : PySem.W.Frag) : Prop where
  exc : ∀ d ∈ ten, ExcC K (He.ga K d)
  kit : ∀ d ∈ ten, ∀ x ∈ ten, PySem.W.kitOne K (.ref (He.ga K d)) (.ref (He.ga K x)) = some (decide (d = x))
  kitS : ∀ d ∈ ten, PySem.W.kitOne K (.ref (He.ga K d)) (.ref (He.ga K "StillError")) = some true
  exm : ∀ d ∈ ten, ∀ x ∈ ten, PySem.W.exmOne K (.ref (He.ga K d)) (.ref (He.ga K x)) = some (decide (d = x))
  exmS : ∀ d ∈ ten, PySem.W.exmOne K (.ref (He.ga K d)) (.ref (He.ga K "StillError")) = some true
  kitV : ∀ d ∈ ten, PySem.W.kitOne K (.ref (He.ga K d)) (.type "ValueError") = some true
def sp__law_word (K : PySem.W.Frag) (p : Addr × Obj) : Sp := fun vs H Q E => ∃ d, d ∈ ten ∧ vs = [.ref p.1] ∧ Zc (.ref (He.ga K d)) none p.2 ∧ (∃ vs, p.2.data = .fields vs) ∧ ∀ H', Same H H' → Q (.str d) H'
def t__law_word (K : PySem.W.Frag) (d : Str) (p : Addr × Obj) (W : WX) : TS := uSeq (uAsg (uLst (uCons (uCB (rIsE K (He.ga K d) p.1) (uCons (tVar 0) (uCons (uC (.ref (He.ga K "NoThing"))) uNil))) (uCons (uCB (rIsE K (He.ga K d) p.1) (uCons (tVar 0) (uCons (uC (.ref (He.ga K "NoDirectory"))) uNil))) (uCons (uCB (rIsE K (He.ga K d) p.1) (uCons (tVar 0) (uCons (uC (.ref (He.ga K "BadName"))) uNil))) (uCons (uCB (rIsE K (He.ga K d) p.1) (uCons (tVar 0) (uCons (uC (.ref (He.ga K "IsThere"))) uNil))) uNil))))) (vName 1))
    (uSeq (uAsg (uOp rCat (tVar 1) (uLst (uCons (uCB (rIsE K (He.ga K d) p.1) (uCons (tVar 0) (uCons (uC (.ref (He.ga K "NoRoom"))) uNil))) (uCons (uCB (rIsE K (He.ga K d) p.1) (uCons (tVar 0) (uCons (uC (.ref (He.ga K "NotEmpty"))) uNil))) (uCons (uCB (rIsE K (He.ga K d) p.1) (uCons (tVar 0) (uCons (uC (.ref (He.ga K "WrongKind"))) uNil))) uNil))))) (vName 1))
    (uSeq (uAsg (uOp rCat (tVar 1) (uLst (uCons (uCB (rIsE K (He.ga K d) p.1) (uCons (tVar 0) (uCons (uC (.ref (He.ga K "TooGreat"))) uNil))) (uCons (uCB (rIsE K (He.ga K d) p.1) (uCons (tVar 0) (uCons (uC (.ref (He.ga K "ReadOnly"))) uNil))) (uCons (uCB (rIsE K (He.ga K d) p.1) (uCons (tVar 0) (uCons (uC (.ref (He.ga K "NoFiles"))) uNil))) uNil))))) (vName 1))
    (uSeq (uAsg (uLst (uCons (uC (.str "NoThing")) (uCons (uC (.str "NoDirectory")) (uCons (uC (.str "BadName")) (uCons (uC (.str "IsThere")) (uCons (uC (.str "NoRoom")) (uCons (uC (.str "NotEmpty")) (uCons (uC (.str "WrongKind")) (uCons (uC (.str "TooGreat")) (uCons (uC (.str "ReadOnly")) uNil)))))))))) (vName 2))
    (uSeq (uIfS (uOr (uTest (uOp rNe (uBM K "list" (rCntF K) (tVar 1) (uCons (uC (.bl true)) uNil)) (uC (.int 1)))) (uOr (uNot (uTest (uCB (rIsE K (He.ga K d) p.1) (uCons (tVar 0) (uCons (uC (.ref (He.ga K "StillError"))) uNil))))) (uNot (uTest (uCB (rIsE K (He.ga K d) p.1) (uCons (tVar 0) (uCons (uC (.ty "ValueError")) uNil))))))) (uRet (uC (.str "other"))) uNext)
    (uRet (uOp (rIxL K) (uOp rCat (tVar 2) (uLst (uCons (uC (.str "NoFiles")) uNil))) (uBM K "list" (rIndex K) (tVar 1) (uCons (uC (.bl true)) uNil))))))))
section
variable {K : PySem.W.Frag} {H : Hp} {Q : VK} {D a c : Addr} {b : Bool}
theorem x_isP (h : PySem.W.kitOne K (.ref D) (.ref c) = some b) (q : Q (.bl b) H) : rIsE K D a [.ref a, .ref c] H Q := ⟨.ref c, .ref c, b, rfl, fun _ r => r, h, q⟩
theorem x_isPT {n : String} (h : PySem.W.kitOne K (.ref D) (.type n) = some b) (q : Q (.bl b) H) : rIsE K D a [.ref a, .ty n] H Q := ⟨.ty n, .type n, b, rfl, fun _ r => r, h, q⟩
end
theorem ten_count : ∀ d ∈ ten, ((ten.map fun x => V.bl (decide (d = x))).countP fun z => eqV z (.bl true)) = 1 := by decide +kernel
theorem ten_index : ∀ d ∈ ten, ∃ j, j < 10 ∧ (ten.map fun x => V.bl (decide (d = x)))[j]? = some (.bl true) ∧ (∀ m, m < 10 → m < j → (ten.map fun x => V.bl (decide (d = x)))[m]? = some (.bl false)) ∧ (ten.map V.str)[j]? = some (.str d) := by decide +kernel
theorem pure__law_word {K : PySem.W.Frag} (X : XK10 K) {d : Str} {p : Addr × Obj} (hd : d ∈ ten) {H : Hp} {Q : VK} {E : XK} (q : ∀ H', Same H H' → Q (.str d) H') : t__law_word K d p W0 (fin Q) [some (.ref p.1), none, none] H := by
  have k := X.kit d hd
  unfold t__law_word
  walk_at "go"
  refine x_isP (k "NoThing" (by decide)) ?_
  walk_at "go"
  refine x_isP (k "NoDirectory" (by decide)) ?_
  walk_at "go"
  refine x_isP (k "BadName" (by decide)) ?_
  walk_at "go"
  refine x_isP (k "IsThere" (by decide)) ?_
  walk_at "go"
  refine x_lst fun l1 H1 n1 h1 s1 => ?_
  walk_at "go"
  refine x_isP (k "NoRoom" (by decide)) ?_
  walk_at "go"
  refine x_isP (k "NotEmpty" (by decide)) ?_
  walk_at "go"
  refine x_isP (k "WrongKind" (by decide)) ?_
  walk_at "go"
  refine x_lst fun l2 H2 n2 h2 s2 => ?_
  walk_at "go"
  refine x_cat (by walk_at "hp") h2 (by rw [sizeLine_eq]; exact Nat.le_of_ble_eq_true rfl) fun l3 H3 n3 h3 s3 => ?_
  walk_at "go"
  refine x_isP (k "TooGreat" (by decide)) ?_
  walk_at "go"
  refine x_isP (k "ReadOnly" (by decide)) ?_
  walk_at "go"
  refine x_isP (k "NoFiles" (by decide)) ?_
  walk_at "go"
  refine x_lst fun l4 H4 n4 h4 s4 => ?_
  walk_at "go"
  refine x_cat (by walk_at "hp") h4 (by rw [sizeLine_eq]; exact Nat.le_of_ble_eq_true rfl) fun l5 H5 n5 h5 s5 => ?_
  have h5 : H5 l5 = some (.lst (ten.map fun x => V.bl (decide (d = x)))) := h5
  walk_at "go"
  refine x_lst fun l6 H6 n6 h6 s6 => ?_
  walk_at "go"
  have fl : (ten.map fun x => V.bl (decide (d = x))).all flatV = true := rfl
  refine ⟨l5, _, .bl true, rfl, rfl, SqL.of (by walk_at "hp"), rfl, fl, ?_⟩
  rw [ten_count d hd]
  walk_at "go"
  refine x_ifF rfl ?_
  walk_at "go"
  refine x_isP (X.kitS d hd) ?_
  walk_at "go"
  refine x_ifF rfl ?_
  walk_at "go"
  refine x_isPT (X.kitV d hd) ?_
  walk_at "go"
  refine x_ifF rfl ?_
  walk_at "go"
  refine x_lst fun l7 H7 n7 h7 s7 => ?_
  walk_at "go"
  refine x_cat (by walk_at "hp") h7 (by rw [sizeLine_eq]; exact Nat.le_of_ble_eq_true rfl) fun l8 H8 n8 h8 s8 => ?_
  have h8 : H8 l8 = some (.lst (ten.map V.str)) := h8
  walk_at "go"
  obtain ⟨j, hj, e1, e2, e3⟩ := ten_index d hd
  refine ⟨l5, _, .bl true, j, .bl true, rfl, rfl, SqL.of (by walk_at "hp"), rfl, fl, e1, rfl, fun m z' hm hz => ?_, ?_⟩
  · rw [e2 m (by omega) hm] at hz
    cases hz
    rfl
  · refine x_ixL (SqL.of h8) (atI_of (Int.natCast_nonneg j) (by rw [Int.toNat_natCast]; exact e3)) ?_
    exact q _ (by walk_at "sm")
end SP

set_option Elab.async false
set_option linter.all false
set_option maxRecDepth 100000
set_option maxHeartbeats 4000000
/-! Comprehensions by what their turns make; clauses. -/
namespace SP
open PySem PySem.Spec PyProof.Rows L2
def rLc (J : It) (g : TG) (tt : TT) (te : TE) (vs : List Nat) (σ : L2.St) (H1 : Hp) (Q : VK) : Prop := ∀ D, H1 D = none → ∃ W : Nat → Nat → Hp → Prop, (∃ m, W 0 m (upd H1 D (.lst []))) ∧ ∀ i m H, W i m H →
  (J.stop i H ∧ Q (.ref D) H) ∨ (J.go i H ∧ ∃ Nx : Hp → Prop, (∀ H', Nx H' → ∃ m', m' < m ∧ W (i + 1) m' H') ∧ ∀ x H', J.yld i H x H' → g x (wipe σ vs) H' fun σ2 H2 => wipe σ2 vs = wipe σ vs ∧ tt σ2 H2 fun b H3 =>
    if b = true then te σ2 H3 fun y H4 => ∃ acc, H4 D = some (.lst acc) ∧ acc.length < sizeLine ∧ Nx (upd H4 D (.lst (acc ++ [y]))) else Nx H3)
abbrev uLc (wi : TI) (g : TG) (tt : TT) (te : TE) (vs : List Nat) : TE := fun σ H Q => wi σ H fun J H1 => rLc J g tt te vs σ H1 Q
theorem asSs {X : Cx} {b : List Stmt} {t t' : TS} (h : PSs X b t) (e : t = t') : PSs X b t' := e ▸ h
theorem asE {X : Cx} {e : Expr} {t t' : TE} (h : PE X e t) (q : t = t') : PE X e t' := q ▸ h
theorem asTs {X : Cx} {b : List Expr} {t t' : TT} (h : PTs X b t) (e : t = t') : PTs X b t' := e ▸ h
theorem units65 {k : Nat} {A : Around} (r : Room k A) : A.units + 65 < cLine := by have := r.un; omega
theorem av_upd {D : Addr} {H : Hp} {o : HO} : av [D] (upd H D o) = av [D] H := by
  funext a
  unfold av
  by_cases h : a = D
  · subst h
    simp
  · simp only [List.mem_singleton, h, if_false]
    exact upd_ne h
theorem same_av {D : Addr} {H H' : Hp} (n : H D = none) (s : Same H H') : Same H (av [D] H') := fun a o e => av_at (s a o e) (by
  rw [List.mem_singleton]
  exact ne_of_none e n)
theorem keepNew {ms : List Addr} {H H1 H2 : Hp} (n : ∀ a ∈ ms, H a = none) (s : Same H H1) (k : Keep ms H1 H2) : Same H H2 := fun a o e => k.k a o (fun z => by rw [n a z] at e; cases e) (s a o e)
theorem updNew {H H1 : Hp} {p : Addr} {o : HO} (n : H p = none) (s : Same H H1) : Same H (upd H1 p o) := fun a u e => by
  rw [upd_ne (ne_of_none e n)]
  exact s a u e
section
variable {K : PySem.W.Frag} {σ : L2.St} {H : Hp} {Q : VK} {g : TG} {te : TE} {vs : List Nat}
/-- over a range, nothing left out: F i y, the i-th turn's item is y -/
theorem x_lcR {lo : Int} {n : Nat} (F : Nat → V → Hp → Prop) (mono : ∀ i v H H', Le H H' → F i v H → F i v H') (hn : n ≤ 100000)
    (hs : ∀ i D H' (P : VK), i < n → H D = none → (∃ acc, H' D = some (.lst acc)) → Same H H' → (∀ y H4, Same H' H4 → F i y (av [D] H4) → P y H4) → g (.int (lo + i)) (wipe σ vs) H' fun σ2 H2 => wipe σ2 vs = wipe σ vs ∧ te σ2 H2 P)
    (q : ∀ D H' acc, H D = none → H' D = some (.lst acc) → acc.length = n → Same H H' → (∀ i y, acc[i]? = some y → F i y (av [D] H')) → Q (.ref D) H') :
    rLc (Itr lo n) g tYes te vs σ H Q := by
  intro D nD
  refine lc_range (Qd := fun H' => Q (.ref D) H') (fun i H' => ∃ acc, H' D = some (.lst acc) ∧ acc.length = i ∧ Same H H' ∧ ∀ i y, acc[i]? = some y → F i y (av [D] H')) ⟨[], upd_same, rfl, Same.new nD, fun i y e => by simp at e⟩ (fun i H' hi h => ?_) (fun H' ⟨acc, hd, hl, s, hf⟩ => q D H' acc nD hd hl s hf)
  obtain ⟨acc, hd, hl, s, hf⟩ := h
  simp only [tYes, ↓reduceIte]
  refine hs i D H' _ hi nD ⟨acc, hd⟩ s fun y H4 s4 f4 => ⟨acc, s4 _ _ hd, ?_, acc ++ [y], upd_same, by rw [List.length_append, hl]; rfl, ?_, fun j z ez => ?_⟩
  · rw [sizeLine_eq]
    omega
  · exact updNew nD (s.trans s4)
  · rw [av_upd]
    by_cases c : j < acc.length
    · rw [List.getElem?_append_left c] at ez
      exact mono _ _ _ _ (Same.av s4) (hf j z ez)
    · rw [List.getElem?_append_right (Nat.le_of_not_lt c)] at ez
      have e0 : j - acc.length = 0 := by
        cases h : j - acc.length with
        | zero => rfl
        | succ m => rw [h] at ez; simp at ez
      rw [e0] at ez
      cases ez
      have : j = i := by omega
      subst this
      exact f4
end
/-- items that are told beforehand -/
theorem list_is {f : Nat → V} {acc : List V} {n : Nat} (hl : acc.length = n) (h : ∀ i y, acc[i]? = some y → y = f i) : acc = (List.range n).map f := by
  refine List.ext_getElem? fun i => ?_
  cases e : acc[i]? with
  | none =>
    have : n ≤ i := by rw [← hl]; exact List.getElem?_eq_none_iff.mp e
    rw [List.getElem?_eq_none_iff.mpr (by rw [List.length_map, List.length_range]; exact this)]
  | some y =>
    have hi : i < n := by rw [← hl]; exact (List.getElem?_eq_some_iff.mp e).1
    rw [List.getElem?_map, List.getElem?_range hi, h i y e]
    rfl
section
variable {K : PySem.W.Frag} {c cls : Value} {i : Nat} {ts : Addr → Value → Option Addr → TS} {Wout : WX} {D : Ends} {d : Option Addr} {σ : L2.St} {H : Hp}
theorem x_wAsT (e : PySem.W.exmOne K cls c = some true) (h : ∀ a, H a = none → ts a cls d { nx := fun σ' H' => D.nx (σ'.set i none) H', rt := D.rt, bk := fun σ' H' => D.bk (σ'.set i none) H', ct := fun σ' H' => D.ct (σ'.set i none) H' } (σ.set i (some (.ref a))) H) : wAs K c i ts Wout D cls d σ H :=
  ⟨true, e, fun _ => h, fun z => by cases z⟩
theorem x_wAsF (e : PySem.W.exmOne K cls c = some false) (h : Wout cls d σ H) : wAs K c i ts Wout D cls d σ H :=
  ⟨false, e, fun z => absurd z Bool.false_ne_true, fun _ => h⟩
theorem x_wOnlyT (e : PySem.W.exmOne K cls c = some true) (h : ∀ a, H a = none → ts a cls d D σ H) : wOnly K c ts Wout D cls d σ H :=
  ⟨true, e, fun _ => h, fun z => by cases z⟩
theorem x_wOnlyF (e : PySem.W.exmOne K cls c = some false) (h : Wout cls d σ H) : wOnly K c ts Wout D cls d σ H :=
  ⟨false, e, fun z => absurd z Bool.false_ne_true, fun _ => h⟩
end
end SP

set_option Elab.async false
set_option linter.all false
set_option maxRecDepth 100000
set_option maxHeartbeats 4000000
/-! disk_of; the word of an exception that is caught. -/
namespace SP
open PySem PySem.Spec PyProof.Rows L2 L2H
local macro_rules | `(tactic| walk_at "hp") => `(tactic| first
  | assumption
  | exact upd_same
  | (refine' sameAt ?sA ?hA; (case sA => assumption); (case hA => walk_at "hp"))
  | (refine' Eq.trans (upd_ne ?nA) ?hA; (case nA => walk_at "ne"); (case hA => walk_at "hp")))
local macro_rules | `(tactic| walk_at "ne") => `(tactic| first
  | assumption
  | (refine' Ne.symm ?hA; assumption)
  | (refine' ne_of_none (H := _) ?hA (by assumption); walk_at "hp")
  | (refine' Ne.symm (ne_of_none (H := _) ?hA (by assumption)); walk_at "hp")
  | (refine' ne_of ?hA ?hB ?hC; (case hA => assumption); (case hB => walk_at "hp"); (case hC => (intro z; cases z))))
local macro_rules | `(tactic| walk_at "sm") => `(tactic| first
  | exact Same.refl _
  | assumption
  | (refine' sameTr ?sA ?sB; (case sA => assumption); (case sB => walk_at "sm")))
local macro_rules | `(tactic| walk_at "dm") => `(tactic| first
  | exact dmRefl
  | assumption
  | (refine' dmUpd ?dA; (case dA => walk_at "dm"))
  | (refine' dmSame ?sA ?dA; (case sA => assumption); (case dA => walk_at "dm")))
local macro_rules | `(tactic| walk_at "fr") => `(tactic| first
  | assumption
  | (refine' dmAt ?dA ?hA; (case hA => assumption); (case dA => walk_at "dm")))
local macro_rules | `(tactic| walk_at "ab") => `(tactic| (exfalso; refine absurd ?hA (noneSome ?hB); (case hB => walk_at "hp"); (case hA => assumption)))
local macro_rules | `(tactic| walk_at "kp") => `(tactic| first
  | exact Keep.refl
  | assumption
  | (refine' Keep.trans ?kA (keepUpd ?kB ?kC ?kD); (case kB => simp); (case kC => walk_at "hp"); (case kD => (intro xs z; cases z)); (case kA => walk_at "kp"))
  | (refine' keepTr ?kB ?kA; (case kB => assumption); (case kA => walk_at "kp"))
  | (refine' keepSm ?kB ?kA; (case kB => assumption); (case kA => walk_at "kp")))
local macro_rules | `(tactic| walk_at "get") => `(tactic| first
  | (refine' x_get_Files_state ?T ?h ?_) | (refine' x_get_Thing_kind ?T ?h ?_) | (refine' x_get_Thing_entries ?T ?h ?_) | (refine' x_get_Thing_held ?T ?h ?_)
  | (refine' x_get_Files_disk ?T ?h ?_) | (refine' x_get_Files_kept ?T ?h ?_) | (refine' x_get_Files_used ?T ?h ?_)
  | (refine' x_get_Disk_blocks ?T ?h ?_) | (refine' x_get_Disk_log ?T ?h ?_)
  | (refine' x_get_Reader_row ?T ?h ?_) | (refine' x_get_Reader_at ?T ?h ?_) | (refine' x_get_Reader_good ?T ?h ?_)
  | (refine' x_get_Files_slot ?T ?h ?_) | (refine' x_get_Files_turn ?T ?h ?_) | (refine' x_get_Files_is_new ?T ?h ?_))
local macro_rules | `(tactic| walk_at "set") => `(tactic| first
  | ((with_reducible refine' x_set_Disk_blocks ?T ?h ?_); (case T => assumption); (case h => walk_at "hp"))
  | ((with_reducible refine' i_set_Disk_blocks ?T ?h ?_); (case T => assumption); (case h => walk_at "hp"))
  | ((with_reducible refine' x_set_Disk_log ?T ?h ?_); (case T => assumption); (case h => walk_at "hp"))
  | ((with_reducible refine' i_set_Disk_log ?T ?h ?_); (case T => assumption); (case h => walk_at "hp"))
  | ((with_reducible refine' x_set_Thing_kind ?T ?h ?_); (case T => assumption); (case h => walk_at "hp"))
  | ((with_reducible refine' i_set_Thing_kind ?T ?h ?_); (case T => assumption); (case h => walk_at "hp"))
  | ((with_reducible refine' x_set_Thing_held ?T ?h ?_); (case T => assumption); (case h => walk_at "hp"))
  | ((with_reducible refine' i_set_Thing_held ?T ?h ?_); (case T => assumption); (case h => walk_at "hp"))
  | ((with_reducible refine' x_set_Thing_entries ?T ?h ?_); (case T => assumption); (case h => walk_at "hp"))
  | ((with_reducible refine' i_set_Thing_entries ?T ?h ?_); (case T => assumption); (case h => walk_at "hp"))
  | ((with_reducible refine' x_set_Reader_row ?T ?h ?_); (case T => assumption); (case h => walk_at "hp"))
  | ((with_reducible refine' i_set_Reader_row ?T ?h ?_); (case T => assumption); (case h => walk_at "hp"))
  | ((with_reducible refine' x_set_Reader_at ?T ?h ?_); (case T => assumption); (case h => walk_at "hp"))
  | ((with_reducible refine' i_set_Reader_at ?T ?h ?_); (case T => assumption); (case h => walk_at "hp"))
  | ((with_reducible refine' x_set_Reader_good ?T ?h ?_); (case T => assumption); (case h => walk_at "hp"))
  | ((with_reducible refine' i_set_Reader_good ?T ?h ?_); (case T => assumption); (case h => walk_at "hp"))
  | ((with_reducible refine' x_set_Files_disk ?T ?h ?_); (case T => assumption); (case h => walk_at "hp"))
  | ((with_reducible refine' i_set_Files_disk ?T ?h ?_); (case T => assumption); (case h => walk_at "hp"))
  | ((with_reducible refine' x_set_Files_state ?T ?h ?_); (case T => assumption); (case h => walk_at "hp"))
  | ((with_reducible refine' i_set_Files_state ?T ?h ?_); (case T => assumption); (case h => walk_at "hp"))
  | ((with_reducible refine' x_set_Files_kept ?T ?h ?_); (case T => assumption); (case h => walk_at "hp"))
  | ((with_reducible refine' i_set_Files_kept ?T ?h ?_); (case T => assumption); (case h => walk_at "hp"))
  | ((with_reducible refine' x_set_Files_slot ?T ?h ?_); (case T => assumption); (case h => walk_at "hp"))
  | ((with_reducible refine' i_set_Files_slot ?T ?h ?_); (case T => assumption); (case h => walk_at "hp"))
  | ((with_reducible refine' x_set_Files_turn ?T ?h ?_); (case T => assumption); (case h => walk_at "hp"))
  | ((with_reducible refine' i_set_Files_turn ?T ?h ?_); (case T => assumption); (case h => walk_at "hp"))
  | ((with_reducible refine' x_set_Files_used ?T ?h ?_); (case T => assumption); (case h => walk_at "hp"))
  | ((with_reducible refine' i_set_Files_used ?T ?h ?_); (case T => assumption); (case h => walk_at "hp"))
  | ((with_reducible refine' x_set_Files_is_new ?T ?h ?_); (case T => assumption); (case h => walk_at "hp"))
  | ((with_reducible refine' i_set_Files_is_new ?T ?h ?_); (case T => assumption); (case h => walk_at "hp")))
local macro_rules | `(tactic| walk_at "go1") => `(tactic| first
  | ((with_reducible refine w_var (v := ?vv) ?e ?_); (case e => rfl))
  | ((with_reducible walk_at "get"); (case T => assumption); (case h => walk_at "hp"))
  | (with_reducible refine x_bl ?_)
  | (with_reducible refine x_isN ?_) | (with_reducible refine x_notN ?_) | (with_reducible refine x_eqI ?_) | (with_reducible refine x_neI ?_) | (with_reducible refine x_eqS ?_) | (with_reducible refine x_neS ?_)
  | (with_reducible refine x_addI ?_) | (with_reducible refine x_subI ?_) | (with_reducible refine x_ltI ?_) | (with_reducible refine x_leI ?_) | (with_reducible refine x_gtI ?_) | (with_reducible refine x_geI ?_)
  | (with_reducible refine x_bv ?_) | (with_reducible refine x_part ?_) | (with_reducible refine x_neg ?_) | (with_reducible refine x_inS ?_)
  | (walk_at "set")
  | ((with_reducible refine' x_bmL ?h ?_); (case h => walk_at "hp")) | ((with_reducible refine' x_bmL0 ?h ?_); (case h => walk_at "hp")))
local macro_rules | `(tactic| walk_at "go") => `(tactic| ((try with_reducible (conv => whnf)); repeat ((walk_at "go1"); (try with_reducible (conv => whnf)))))
abbrev uWordS (K : PySem.W.Frag) (a : Addr) (cls : Value) (dd : Option Addr) (t : TA) : TE := fun σ H Q => t σ H fun vs H1 => ∃ d, d ∈ ten ∧ vs = [.ref a] ∧ cls = .ref (He.ga K d) ∧ dd = none ∧ ∀ H2, Same H1 H2 → Q (.str d) H2
section
variable {X : Cx} {k : Nat} {f : Addr} {fd : FuncData} {ps : List Str} {x : Str} {q pos : Pos} {e : Expr} {es : List Expr} {t : TA} {a : Addr} {oe : Obj} {cls : Value} {dd : Option Addr}
theorem pe_wordS (F : FnP X.prog X.w X.K X.mg X.base k f fd ps (sp__law_word X.K)) (hr : RoomH k X.A) (hp : (a, oe) ∈ X.pn) (hz : Zc cls dd oe) (hf : ∃ vs, oe.data = .fields vs) (hm : X.mg x = some (.ref f)) (hk : PySem.W.keepIn X.K (.ref f) = true) (hb : Binds X.K fd ps [])
    (ha : PA X (e :: es) t) (hg : Gl X x := by rfl) (hdb : (x == ("__debug__" : Str)) = false := by decide) (he : starEach (e :: es) X.env = (false, eval e X.env) :: starEach es X.env := by rfl) (hpl : (backTo pos (starEach es X.env)).any (·.1) = false := by rfl) :
    PE X (.Call (.Name x q) (e :: es) [] pos) (uWordS X.K a cls dd t) := by
  refine ⟨fun pins s σ H Q I h => ?_⟩
  refine wpAny_Call_Name_kw (ld_glob I hg hm ?_ hdb)
  refine PySem.W.callWith_K (h₀ := X.base) I.ok.mod.kin hk (thn (ha.run pos pins s σ H _ I h) fun us s1 ⟨vs, H1, I1, r, q0⟩ => ⟨I1.kIn, ?_⟩) he hpl
  obtain ⟨d, hd, ev, ec, en, q⟩ := q0
  have hsp : sp__law_word X.K (a, oe) vs H1 Q fun _ _ _ => False := ⟨d, hd, ev, by rw [← ec, ← en]; exact hz, hf, q⟩
  have hl : us.length = ps.length := by rw [← r.length]; exact F.len _ _ _ _ _ hsp
  have b := hb s1 us I1.kIn (by rw [List.append_nil]; exact hl)
  rw [List.append_nil] at b
  have P1 := I1.pin (a, oe) (List.mem_append_left _ hp)
  have hpin : PinOk X.stack H1 s1 (a, oe) := ⟨P1.1, P1.2.1, fun hm => (List.mem_cons.mp (I1.stkSub a hm)).elim P1.2.2.1 P1.2.2.2.1, P1.2.2.2.2⟩
  refine wpAny_call (codeAny_mono (F.run X.A X.stack s1 H1 ⟨us, []⟩ us vs Q _ (a, oe) hr hpin I1.env0 b r hsp) fun r s' hq => ?_)
  cases r with
  | error e => exact (passAt (W := fun _ _ _ _ => False) takes0 σ pins H1 s1 e s' I1 hq)
  | ok fl =>
    cases fl with
    | ret u => exact I1.after hq
    | next => exact False.elim hq
    | brk => exact False.elim hq
    | cont => exact False.elim hq
end
/-! ### data of disks -/
def dblk : Option (List Int) → PyData
  | none => .none
  | some b => .tuple (b.map .int)
def dB (B : List (Option (List Int))) : PyData := .list (B.map dblk)
def dent : Ent → PyData
  | .wr n b => .tuple [.str "write", .int n, .tuple (b.map .int)]
  | .bar => .tuple [.str "barrier"]
def dL (E : List Ent) : PyData := .list (E.map dent)
theorem shp_is {n : Nat} (b : List Int) : ∀ x ∈ b.map PyData.int, Shp n x := fun x hx => by
  obtain ⟨i, _, rfl⟩ := List.mem_map.mp hx
  exact Shp.int i
theorem shp_t {n : Nat} {xs : List PyData} (h : ∀ x ∈ xs, Shp n x) : Shp (n + 1) (.tuple xs) := Shp.tuple h
theorem shp_blk (b : Option (List Int)) : Shp 1 (dblk b) := by
  cases b with
  | none => exact Shp.none
  | some b => exact shp_t (n := 0) (shp_is b)
theorem Shp.str {n : Nat} {z : Str} (h : PyData.strOk z = true) : Shp n (.str z) := ⟨by simp [PyData.canLay0, h], by simp [PyData.depth]⟩
theorem shp_ent (e : Ent) : Shp 2 (dent e) := by
  cases e with
  | bar =>
    refine (shp_t (n := 0) fun x hx => ?_).mono (by decide)
    rw [List.mem_singleton.mp hx]
    exact Shp.str (by decide +kernel)
  | wr n b =>
    refine shp_t (n := 1) fun x hx => ?_
    rcases List.mem_cons.mp hx with e | hx
    · rw [e]; exact Shp.str (by decide +kernel)
    rcases List.mem_cons.mp hx with e | hx
    · rw [e]; exact Shp.int _
    rw [List.mem_singleton.mp hx]
    exact shp_blk (some b)
theorem shp_B (B : List (Option (List Int))) : Shp 2 (dB B) := Shp.list fun x hx => by
  obtain ⟨b, _, rfl⟩ := List.mem_map.mp hx
  exact shp_blk b
theorem shp_L (E : List Ent) : Shp 3 (dL E) := Shp.list fun x hx => by
  obtain ⟨b, _, rfl⟩ := List.mem_map.mp hx
  exact shp_ent b
theorem eqv_same {n : Nat} {d : PyData} (h : Shp n d) : PyData.eqv d d = true := SeqAt.eqv_refl d h.c
theorem dp_blk {K : PySem.W.Frag} {H : Hp} {v : V} {b : Option (List Int)} (h : BlkV H v b) : Dp K H v (dblk b) := by
  cases b with
  | none => rw [show v = .non from h]; exact .non
  | some b =>
    obtain ⟨p, rfl, e⟩ := h
    exact .tup (SqT.of e) (dpAll_ints b)
theorem dp_ent {K : PySem.W.Frag} {H : Hp} {v : V} {e : Ent} (h : EntV H v e) : Dp K H v (dent e) := by
  cases e with
  | bar =>
    obtain ⟨p, rfl, e⟩ := h
    exact .tup (SqT.of e) (.cons (.str _) .nil)
  | wr n b =>
    obtain ⟨p, q, rfl, e, f⟩ := h
    exact .tup (SqT.of e) (.cons (.str _) (.cons (.int _) (.cons (.tup (SqT.of f) (dpAll_ints b)) .nil)))
theorem dpAll_of {α : Type} {K : PySem.W.Frag} {H : Hp} {F : V → α → Prop} {g : α → PyData} (h : ∀ v a, F v a → Dp K H v (g a)) : ∀ {vs : List V} {as : List α}, Paired F vs as → DpAll K H vs (as.map g)
  | _, _, .nil => .nil
  | _, _, .cons a t => .cons (h _ _ a) (dpAll_of h t)
/-- a list of blocks -/
def BlksAt (H : Hp) (u : Addr) (B : List (Option (List Int))) : Prop := ∃ vs, H u = some (.lst vs) ∧ Paired (BlkV H) vs B
def EntsAt (H : Hp) (u : Addr) (E : List Ent) : Prop := ∃ vs, H u = some (.lst vs) ∧ Paired (EntV H) vs E
theorem dp_B {K : PySem.W.Frag} {H : Hp} {u : Addr} {B : List (Option (List Int))} (h : BlksAt H u B) : Dp K H (.ref u) (dB B) := by
  obtain ⟨vs, e, p⟩ := h
  exact .lst (SqL.of e) (dpAll_of (g := dblk) (fun _ _ h => dp_blk h) p)
theorem dp_L {K : PySem.W.Frag} {H : Hp} {u : Addr} {E : List Ent} (h : EntsAt H u E) : Dp K H (.ref u) (dL E) := by
  obtain ⟨vs, e, p⟩ := h
  exact .lst (SqL.of e) (dpAll_of (g := dent) (fun _ _ h => dp_ent h) p)
theorem BlksAt.keep {H H' : Hp} {u : Addr} {B : List (Option (List Int))} {ms : List Addr} (h : BlksAt H u B) (k : Keep ms H H') (n : u ∉ ms) : BlksAt H' u B := by
  obtain ⟨vs, e, p⟩ := h
  exact ⟨vs, k.k _ _ n e, L2.Paired.mapP p fun _ _ z => z.tu k.t⟩
theorem EntsAt.keep {H H' : Hp} {u : Addr} {E : List Ent} {ms : List Addr} (h : EntsAt H u E) (k : Keep ms H H') (n : u ∉ ms) : EntsAt H' u E := by
  obtain ⟨vs, e, p⟩ := h
  exact ⟨vs, k.k _ _ n e, L2.Paired.mapP p fun _ _ z => z.tu k.t⟩
theorem BlksAt.same {H H' : Hp} {u : Addr} {B : List (Option (List Int))} (h : BlksAt H u B) (s : Same H H') : BlksAt H' u B := h.keep (ms := []) (Keep.of s) (by simp)
theorem EntsAt.same {H H' : Hp} {u : Addr} {B : List Ent} (h : EntsAt H u B) (s : Same H H') : EntsAt H' u B := h.keep (ms := []) (Keep.of s) (by simp)
theorem DiskAt.bs {K : PySem.W.Frag} {H : Hp} {d bl lg : Addr} {B : List (Option (List Int))} {E : List Ent} (D : DiskAt K H d bl lg B E) : BlksAt H bl B := D.b
theorem DiskAt.ls {K : PySem.W.Frag} {H : Hp} {d bl lg : Addr} {B : List (Option (List Int))} {E : List Ent} (D : DiskAt K H d bl lg B E) : EntsAt H lg E := D.l
theorem BlksAt.ne {H : Hp} {u a : Addr} {B : List (Option (List Int))} (h : BlksAt H u B) (n : H a = none) : u ≠ a := by
  obtain ⟨vs, e, _⟩ := h
  exact ne_of_none e n
theorem EntsAt.ne {H : Hp} {u a : Addr} {B : List Ent} (h : EntsAt H u B) (n : H a = none) : u ≠ a := by
  obtain ⟨vs, e, _⟩ := h
  exact ne_of_none e n
/-- one block of a list is set -/
theorem BlksAt.set {H : Hp} {u : Addr} {B : List (Option (List Int))} {vs : List V} {v : V} {b : Option (List Int)} (e : H u = some (.lst vs)) (p : Paired (BlkV H) vs B) (r : BlkV H v b) (i : Nat) : BlksAt (upd H u (.lst (vs.set i v))) u (B.set i b) := by
  have k : Keep [u] H (upd H u (.lst (vs.set i v))) := keepUpd (by simp) e (fun xs z => by cases z)
  exact ⟨_, upd_same, paired_set (r.tu k.t) i (L2.Paired.mapP p fun _ _ z => z.tu k.t)⟩
/-! ### disk_of -/
def sp_disk_of (K : PySem.W.Frag) : Sp := fun vs H Q E => ∃ (u : Addr) (B : List (Option (List Int))), vs = [.ref u] ∧ BlksAt H u B ∧ 16 ≤ B.length ∧ B.length ≤ 256 ∧
  ∀ d bl lg H', H d = none → H bl = none → H lg = none → Same H H' → DiskAt K H' d bl lg B [] → Q (.ref d) H'
def t_disk_of (K : PySem.W.Frag) (W : WX) : TS := uSeq (uAsg (uMakeW (He.ga K "Disk") (sp_Disk___init__ K) W (uCons (uCB (cLenQ K) (uCons (tVar 0) uNil)) uNil)) (vName 1))
    (uSeq (uFor (jRng1 (uCons (uCB (cLenQ K) (uCons (tVar 0) uNil)) uNil)) (vName 2) (uAsg (uOp (rIxL K) (tVar 0) (tVar 2)) (vSub (uFld K (tVar 1) "blocks") (tVar 2) rSetL)))
    (uRet (tVar 1)))
theorem take_rep {α : Type} {B : List α} {x : α} {i : Nat} {b : α} (h : B[i]? = some b) : (B.take i ++ List.replicate (B.length - i) x).set i b = B.take (i + 1) ++ List.replicate (B.length - (i + 1)) x := by
  have hi := (List.getElem?_eq_some_iff.mp h).1
  have e : B.length - i = B.length - (i + 1) + 1 := by omega
  rw [e, List.replicate_succ, List.set_append_right _ _ (by rw [List.length_take]; omega), List.length_take, Nat.min_eq_left (Nat.le_of_lt hi), Nat.sub_self, List.set_cons_zero, List.take_add_one, h]
  simp
theorem pure_disk_of {K : PySem.W.Frag} (T : PxDisk K) {vs : List V} {H : Hp} {Q : VK} {E : XK} (h : sp_disk_of K vs H Q E) : t_disk_of K (WE1 E) (fin Q) (start ["blocks", "disk", "number"] vs) H := by
  obtain ⟨u, B, rfl, ⟨vs, hu, pu⟩, h1, h2, k⟩ := h
  have lv : vs.length = B.length := Paired.len pu
  show t_disk_of K _ (fin Q) [some (.ref u), none, none] H
  unfold t_disk_of
  walk_at "go"
  refine x_lenL hu ?_
  walk_at "go"
  refine x_make fun d dx H1 nd hd s1 => ?_
  refine ⟨d, dx, _, rfl, hd, ?_⟩
  rw [if_pos (by omega)]
  intro bl lg H2 nb nl k1 D2
  refine ⟨rfl, ?_⟩
  have s2 : Same H H2 := keepNew (fun a ha => by rw [List.mem_singleton.mp ha]; exact nd) s1 k1
  have nb0 := s1.free nb
  have nl0 := s1.free nl
  walk_at "go"
  refine x_lenL (s2 _ _ hu) ?_
  walk_at "go"
  refine x_rng1 (by omega) (by omega) ?_
  refine x_forR (fun i σ H' => (∃ o, σ = [some (.ref u), some (.ref d), o]) ∧ Same H H' ∧ DiskAt K H' d bl lg (B.take i ++ List.replicate (B.length - i) (some (List.replicate 64 0))) []) ⟨⟨_, rfl⟩, s2, ?_⟩ (fun i σ H' hi h => ?_) (fun σ H' h => ?_)
  · have e : (List.replicate (Int.toNat (vs.length : Int)) (some (List.replicate 64 (0 : Int)))) = B.take 0 ++ List.replicate (B.length - 0) (some (List.replicate 64 0)) := by
      rw [Int.toNat_natCast, lv]; rfl
    rw [← e]
    exact D2
  · obtain ⟨⟨o, rfl⟩, s, ⟨⟨ex, ho⟩, ⟨ws, hb, pb⟩, hl, ne⟩⟩ := h
    have hi2 : i < B.length := by rw [← lv]; omega
    have ei : ((0 : Int) + (i : Int)).toNat = i := by omega
    obtain ⟨v, hv, bv⟩ := paired_at (i := i) pu (List.getElem?_eq_getElem hi2)
    walk_at "go"
    refine x_ixL (SqL.of (s _ _ hu)) (atI_of (by omega) (by rw [ei]; exact hv)) ?_
    walk_at "go"
    have lw : ws.length = B.length := by
      rw [Paired.len pb, List.length_append, List.length_take, List.length_replicate]
      omega
    refine x_setL hb (ixN_nat (by omega) (by rw [ei, lw]; exact hi2)) ?_
    rw [ei]
    have kk : Keep [bl] H' (upd H' bl (.lst (ws.set i v))) := keepUpd (by simp) hb (fun xs z => by cases z)
    refine ⟨⟨_, rfl⟩, updNew nb0 s, ⟨ex, ?_⟩, ?_, EntsAt.keep hl kk (by simp [Ne.symm ne]), ne⟩
    · rw [upd_ne (ne_of ho hb (by intro z; cases z))]
      exact ho
    · have := BlksAt.set hb pb (bv.tu (fun a xs e => s a _ e)) i
      rw [take_rep (List.getElem?_eq_getElem hi2)] at this
      exact this
  · obtain ⟨⟨o, rfl⟩, s, D⟩ := h
    walk_at "go"
    refine k d bl lg H' nd nb0 nl0 s ?_
    have e : B.take (Int.toNat (vs.length : Int)) ++ List.replicate (B.length - (Int.toNat (vs.length : Int))) (some (List.replicate 64 0)) = B := by
      rw [Int.toNat_natCast, lv, Nat.sub_self, List.take_length]
      simp
    rw [e] at D
    exact D
end SP

set_option Elab.async false
set_option linter.all false
set_option maxRecDepth 100000
set_option maxHeartbeats 0
/-! A head in parts: the facts of the top are asked in chunks, each by a run of its own. -/
namespace HQ
open PySem PySem.W PySem.Calls PyProof.Rows HandSHeadRun
structure Chk where
  fa : List He.Fa
  fn : List He.DefD
  tf : List He.Defn
  ex : PySem.W.Frag → Bool
def Chk.obs (c : Chk) (g : Addr → Option Obj) : He.AlX := He.obsX 5 c.fa c.fn [] c.tf c.ex g
def Chk.val (c : Chk) (w : World) : He.AlX := He.valX c.fn [] w
def Chk.says (c : Chk) (w : World) (h : Heap) (K : PySem.W.Frag) : Prop := He.SaysX c.fa c.fn [] c.tf c.ex w h K
def hookQ (cs : List Chk) : PySem.W.Hook where
  α := List He.AlX
  obs := fun s => cs.map fun c => c.obs s.heap.get?
  val := fun w => cs.map fun c => c.val w
  says := fun w h => ∃ K : PySem.W.Frag, K.In h ∧ ∀ c ∈ cs, c.says w h K
  of := fun w s e => ⟨_, He.frT_in, fun c hc => He.saysX_of (List.map_inj_left.mp e c hc)⟩
  keeps := fun _ _ _ ⟨K, hK, z⟩ k => ⟨K, PySem.W.Frag.In.keeps hK k, fun c hc => ⟨(z c hc).t, (z c hc).more, (z c hc).hd, (z c hc).out, fun p hp => k _ _ ((z c hc).empty p hp)⟩⟩
def obQ (cs : List Chk) (s : PySem.W.SharedT) : List He.AlX := cs.map fun c => c.obs (HandSHeadRun.getT s)
theorem obQ_eq (cs : List Chk) (s : PySem.W.SharedT) : obQ cs s = (hookQ cs).obs s.abs := by
  have e : HandSHeadRun.getT s = s.abs.heap.get? := funext (HandSHeadRun.getT_eq s)
  show (cs.map fun c => c.obs (HandSHeadRun.getT s)) = cs.map fun c => c.obs s.abs.heap.get?
  rw [e]
noncomputable abbrev End (R : PySem.W.OpenRow) (M : Nat) (w : World) (os : OsState) : Option PySem.W.SharedT := endF (stepQ (denQ tabQ) R.prog w) M R.prog w os
abbrev RunL (R : PySem.W.OpenRow) (M : Nat) : Prop := ∀ (w : World) (os : OsState), (End R M w os).map (fun s => looksF R.prog (boot_heap w.params) s.abs) = some true
abbrev RunS (R : PySem.W.OpenRow) (M : Nat) (q : Program) (names : List PySem.Str) : Prop := ∀ (w : World) (os : OsState), (End R M w os).map (fun s => seenQ q names (importedModules R.prog.main.body) (fun s => xlAt q [] s && recOk R.toRowW.records s) s.abs) = some (openGood q names)
abbrev RunC (R : PySem.W.OpenRow) (M : Nat) (c : Chk) : Prop := ∀ (w : World) (os : OsState), (End R M w os).map (fun s => c.obs (getT s)) = some (c.val w)
theorem join {R : PySem.W.OpenRow} {M : Nat} {q : Program} {names : List PySem.Str} {cs : List Chk} (a : RunL R M) (b : RunS R M q names) (c : ∀ x ∈ cs, RunC R M x) (w : World) : HandSHeadRun.RunEq R q (hookQ cs) (obQ cs) M names w := by
  intro os
  have ha := a w os
  have hb := b w os
  have hc := fun x hx => c x hx w os
  show (End R M w os).map _ = _
  cases e : End R M w os with
  | none =>
    rw [e] at ha
    cases ha
  | some s =>
    rw [e] at ha hb
    have h1 := Option.some.inj ha
    have h2 := Option.some.inj hb
    have h3 : obQ cs s = (hookQ cs).val w := List.map_inj_left.mpr fun x hx => by
      have z := hc x hx
      rw [e] at z
      exact Option.some.inj z
    exact congrArg some (Prod.ext h1 (Prod.ext h2 h3))
end HQ
namespace SP
open PySem PySem.Spec PyProof.Rows L2 L2H
/-! ### the ten classes -/
def ten11 : List Str := "StillError" :: ten
def isSm (o : Option Bool) : Bool := match o with
  | some true => true
  | _ => false
theorem isSm_ok {o : Option Bool} (h : isSm o = true) : o = some true := by
  match o, h with
  | some true, _ => rfl
def excB (K : PySem.W.Frag) (D : Addr) : Bool :=
  decide (PySem.W.findIn K (.ref D) "__getattribute__" = some (some (.builtin "BaseException.__getattribute__"))) && (decide (PySem.W.findIn K (.ref D) "__getattr__" = some none) && (isSm (PySem.W.subIn K (.ref D) (.type "BaseException")) && (PySem.W.hasDictIn K D && (decide (PySem.W.findIn K (.ref D) "__class__" = some (some (.builtin "object.__class__"))) &&
  (decide (PySem.W.specialIn K (.builtin "object.__class__") "__get__" = some (some (.builtin "getset_descriptor.__get__"))) && (isSm (PySem.W.takesIn K (.builtin "object.__class__")) && isSm (PySem.W.mroIn K D (.type "object"))))))))
theorem excB_ok {K : PySem.W.Frag} {D : Addr} (h : excB K D = true) : ExcC K D := by
  unfold excB at h
  simp only [Bool.and_eq_true, decide_eq_true_eq] at h
  obtain ⟨h1, h2, h3, h4, h5, h6, h7, h8⟩ := h
  exact ⟨h1, h2, isSm_ok h3, h4, h5, h6, isSm_ok h7, isSm_ok h8⟩
def xk1 (K : PySem.W.Frag) (d : Str) : Bool := excB K (He.ga K d) && (isSm (PySem.W.kitOne K (.ref (He.ga K d)) (.ref (He.ga K "StillError"))) && (isSm (PySem.W.exmOne K (.ref (He.ga K d)) (.ref (He.ga K "StillError"))) && isSm (PySem.W.kitOne K (.ref (He.ga K d)) (.type "ValueError"))))
def xk2 (K : PySem.W.Frag) (d x : Str) : Bool := decide (PySem.W.kitOne K (.ref (He.ga K d)) (.ref (He.ga K x)) = some (decide (d = x))) && decide (PySem.W.exmOne K (.ref (He.ga K d)) (.ref (He.ga K x)) = some (decide (d = x)))
def xk (K : PySem.W.Frag) : Bool := (ten.all fun d => xk1 K d) && ten.all fun d => ten.all fun x => xk2 K d x
theorem xk_ok {K : PySem.W.Frag} (h : xk K = true) : XK10 K := by
  unfold xk at h
  obtain ⟨h1, h2⟩ := Bool.and_eq_true_iff.mp h
  have k1 := fun d hd => List.all_eq_true.mp h1 d hd
  have k2 := fun d hd x hx => List.all_eq_true.mp (List.all_eq_true.mp h2 d hd) x hx
  unfold xk1 at k1
  unfold xk2 at k2
  simp only [Bool.and_eq_true, decide_eq_true_eq] at k1 k2
  exact ⟨fun d hd => excB_ok (k1 d hd).1, fun d hd x hx => (k2 d hd x hx).1, fun d hd => isSm_ok (k1 d hd).2.1, fun d hd x hx => (k2 d hd x hx).2, fun d hd => isSm_ok (k1 d hd).2.2.1, fun d hd => isSm_ok (k1 d hd).2.2.2⟩
theorem excx {K : PySem.W.Frag} {h : Heap} {mg : Str → Option Value} {x : Str} (X : K.In h) (G : h.Ns mainGlobals mg) (g : He.Fa.ok K (.glo x) = true) (e : He.Fa.ok K (.exc x) = true) : ExcX K mg x := by
  have e2 : (PySem.W.excIn K (He.ga K x) He.veBase "ValueError.__new__" && (PySem.W.keepIn K (.ref (He.ga K x)) && (decide (PySem.W.subIn K (.ref (He.ga K x)) (.type "BaseException") = some true) && decide (PySem.W.typeIn K (.ref (He.ga K x)) = some (.type "type"))))) = true := e
  simp only [Bool.and_eq_true, decide_eq_true_eq] at e2
  obtain ⟨h1, h2, h3, h4⟩ := e2
  exact ⟨He.glo_ok X G g, h1, h2, h3, h4⟩
end SP

set_option Elab.async false
set_option linter.all false
set_option maxRecDepth 100000
set_option maxHeartbeats 4000000
/-! Dicts, texts, walks by name. -/
namespace SP
open PySem PySem.Spec PyProof.Rows L2
/-! ### calls by name -/
def cSortDS : List V → Hp → VK → Prop := fun xs H Q => ∃ (a : Addr) (kvs : List (Key × V)) (ks : List Str), xs = [.ref a] ∧ Rd H a (.dK kvs) ∧ kvs.map (·.1) = ks.map Sum.inr ∧ ks.length < 64 ∧
  ∀ ys p, ys.Perm ks → sortedS ys = true → H p = none → Q (.ref p) (upd H p (.lst (ys.map V.str)))
theorem call_sortedDn {X : Cx} (hc : X.calm = true) : CallR X (.builtin "sorted") cSortDS := call_sortedD hc
def cSortDI : List V → Hp → VK → Prop := fun xs H Q => ∃ (a : Addr) (kvs : List (Key × V)) (ks : List Int), xs = [.ref a] ∧ Rd H a (.dK kvs) ∧ kvs.map (·.1) = ks.map Sum.inl ∧ ks.length < 64 ∧
  ∀ (ys : List Int) (p : Addr), ys.Perm ks → ys.Pairwise (· ≤ ·) → H p = none → Q (.ref p) (upd H p (.lst (ys.map V.int)))
theorem call_sortedDIn {X : Cx} (hc : X.calm = true) : CallR X (.builtin "sorted") cSortDI := call_sortedDI hc
def cDictD : List V → Hp → VK → Prop := fun xs H Q => ∃ (a : Addr) (kvs : List (Key × V)), xs = [.ref a] ∧ Rd H a (.dK kvs) ∧ ∀ p, H p = none → Q (.ref p) (upd H p (.dK kvs))
theorem call_dictDn {X : Cx} : CallR X (.type "dict") cDictD := call_dictD
def rSplitS : V → List V → Hp → VK → Prop := fun x xs H Q => ∃ a b, x = .str a ∧ xs = [.str b] ∧ (b.length == 0) = false ∧ a.length + 2 ≤ sizeLine ∧ rNewStrs (Txt.split a b) H Q
section
variable {K : PySem.W.Frag} {σ : L2.St} {H : Hp} {Q : VK} {g : TG} {te : TE} {tt : TT} {vs : List Nat}
theorem x_sortDS {a : Addr} {kvs : List (Key × V)} {ks : List Str} (h : Rd H a (.dK kvs)) (e : kvs.map (·.1) = ks.map Sum.inr) (hl : ks.length < 64) (q : ∀ ys p H', ys.Perm ks → sortedS ys = true → H p = none → H' p = some (.lst (ys.map V.str)) → Same H H' → Q (.ref p) H') : cSortDS [.ref a] H Q :=
  ⟨a, kvs, ks, rfl, h, e, hl, fun ys p h1 h2 hp => q ys p _ h1 h2 hp upd_same (Same.new hp)⟩
theorem x_sortDI {a : Addr} {kvs : List (Key × V)} {ks : List Int} (h : Rd H a (.dK kvs)) (e : kvs.map (·.1) = ks.map Sum.inl) (hl : ks.length < 64) (q : ∀ (ys : List Int) p H', ys.Perm ks → ys.Pairwise (· ≤ ·) → H p = none → H' p = some (.lst (ys.map V.int)) → Same H H' → Q (.ref p) H') : cSortDI [.ref a] H Q :=
  ⟨a, kvs, ks, rfl, h, e, hl, fun ys p h1 h2 hp => q ys p _ h1 h2 hp upd_same (Same.new hp)⟩
theorem x_dictD {a : Addr} {kvs : List (Key × V)} (h : Rd H a (.dK kvs)) (q : ∀ p H', H p = none → H' p = some (.dK kvs) → Same H H' → Q (.ref p) H') : cDictD [.ref a] H Q := ⟨a, kvs, rfl, h, x_new q⟩
theorem x_split {a b : Str} (hb : (b.length == 0) = false) (ha : a.length + 2 ≤ sizeLine) (q : ∀ p H', H p = none → H' p = some (.lst ((Txt.split a b).map V.str)) → Same H H' → Q (.ref p) H') : rSplitS (.str a) [.str b] H Q := ⟨a, b, rfl, rfl, hb, ha, x_new q⟩
/-- a comprehension, its turns told by a walk -/
theorem x_lcW {J : It} {n : Nat} {G : Hp → Prop} {Y : Nat → Hp → V → Hp → Prop} (w : Walk J n G Y) (Pv : Nat → List V → Hp → Prop) (mono : ∀ i acc H H', Le H H' → Pv i acc H → Pv i acc H')
    (hG : ∀ H', Same H H' → G H') (hn : n ≤ 100000) (h0 : Pv 0 [] H)
    (hs : ∀ i x D H' H'' acc (P : VK) (P0 : Hp → Prop), i < n → H D = none → H' D = some (.lst acc) → Same H H' → Pv i acc (av [D] H') → Y i H' x H'' →
      (∀ y H4, Same H' H4 → Pv (i + 1) (acc ++ [y]) (av [D] H4) → P y H4) → (∀ H4, Same H' H4 → Pv (i + 1) acc (av [D] H4) → P0 H4) →
      g x (wipe σ vs) H'' fun σ2 H2 => wipe σ2 vs = wipe σ vs ∧ tt σ2 H2 fun b H3 => if b = true then te σ2 H3 P else P0 H3)
    (q : ∀ D H' acc, H D = none → H' D = some (.lst acc) → acc.length ≤ n → Same H H' → Pv n acc (av [D] H') → Q (.ref D) H') : rLc J g tt te vs σ H Q := by
  intro D nD
  refine lc_it w (Qd := fun H' => Q (.ref D) H') (fun i H' => ∃ acc, H' D = some (.lst acc) ∧ acc.length ≤ i ∧ Same H H' ∧ Pv i acc (av [D] H')) ⟨[], upd_same, Nat.le_refl _, Same.new nD, mono _ _ _ _ (Same.le (same_av nD (Same.new nD))) h0⟩ (fun i H' _ ⟨acc, _, _, s, _⟩ => hG H' s) ?_ (fun H' ⟨acc, hd, hl, s, hf⟩ => q D H' acc nD hd hl s hf)
  intro i x H' H'' hi h hy
  obtain ⟨acc, hd, hl, s, hf⟩ := h
  refine hs i x D H' H'' acc _ _ hi nD hd s hf hy (fun y H4 s4 f4 => ⟨acc, s4 _ _ hd, ?_, acc ++ [y], upd_same, ?_, updNew nD (s.trans s4), by rw [av_upd]; exact f4⟩) fun H4 s4 f4 => ⟨acc, s4 _ _ hd, Nat.le_succ_of_le hl, s.trans s4, f4⟩
  · rw [sizeLine_eq]
    omega
  · rw [List.length_append]
    exact Nat.succ_le_succ hl
end
/-! ### tables of a heap and their plain lists -/
section
variable {κ β : Type} [DecidableEq κ] {F : V → β → Prop} {k : κ → Key} (inj : ∀ a b, k a = k b → a = b)
abbrev KV (k : κ → Key) (F : V → β → Prop) (x : Key × V) (y : κ × β) : Prop := x.1 = k y.1 ∧ F x.2 y.2
include inj
theorem kv_get {j : κ} : ∀ {kvs : List (Key × V)} {l : List (κ × β)}, Paired (KV k F) kvs l → (∀ b, lk l j = some b → ∃ v, valV kvs (k j) = some v ∧ F v b) ∧ (lk l j = none → valV kvs (k j) = none)
  | _, _, .nil => ⟨fun b h => (nomatch h), fun _ => rfl⟩
  | (a, v) :: r, (b, y) :: t, .cons ⟨e, f⟩ p => by
    have ih := kv_get (j := j) p
    simp only at e f
    rw [lk_cons]
    by_cases h : b = j
    · subst h
      rw [if_pos rfl, valV_pos e]
      exact ⟨fun z hz => ⟨v, rfl, (Option.some.inj hz) ▸ f⟩, fun z => (nomatch z)⟩
    · rw [if_neg h, valV_neg (fun z => h (inj _ _ (e.symm.trans z)))]
      exact ih
theorem kv_put {j : κ} {v : V} {b : β} {kvs : List (Key × V)} {l : List (κ × β)} (p : Paired (KV k F) kvs l) (f : F v b) : Paired (KV k F) (putK kvs (k j) v) (pt l j b) := by
  have hg := kv_get inj (j := j) p
  unfold putK pt
  rw [valV_any, lk_any]
  cases h : lk l j with
  | none =>
    rw [hg.2 h, if_neg (by simp), if_neg (by simp)]
    exact Paired.snoc p ⟨rfl, f⟩
  | some y =>
    obtain ⟨u, e, _⟩ := hg.1 y h
    rw [e]
    show Paired _ (List.map _ _) (List.map _ _)
    clear e hg h
    induction p with
    | nil => exact .nil
    | cons r t ih =>
      rename_i x z xs zs
      obtain ⟨e1, e2⟩ := r
      refine .cons ?_ ih
      show KV k F (if x.1 = k j then (x.1, v) else x) (if z.1 = j then (z.1, b) else z)
      by_cases q : z.1 = j
      · rw [if_pos (by rw [e1, q]), if_pos q]
        exact ⟨e1, f⟩
      · rw [if_neg (fun w => q (inj _ _ (e1.symm.trans w))), if_neg q]
        exact ⟨e1, e2⟩
theorem kv_drop {j : κ} {kvs : List (Key × V)} {l : List (κ × β)} (p : Paired (KV k F) kvs l) : Paired (KV k F) (dropK kvs (k j)) (dp l j) := by
  unfold dropK dp
  induction p with
  | nil => exact .nil
  | cons r t ih =>
    rename_i x z xs zs
    obtain ⟨e1, e2⟩ := r
    rw [List.filter_cons, List.filter_cons]
    by_cases q : z.1 = j
    · rw [if_neg (by simp [e1, q]), if_neg (by simp [q])]
      exact ih
    · have q2 : ¬ x.1 = k j := fun w => q (inj _ _ (e1.symm.trans w))
      rw [if_pos (by simp [q2]), if_pos (by simp [q])]
      exact .cons ⟨e1, e2⟩ ih
end
theorem kv_keys {κ β : Type} {F : V → β → Prop} {k : κ → Key} {kvs : List (Key × V)} {l : List (κ × β)} (p : Paired (KV k F) kvs l) : kvs.map (·.1) = (l.map (·.1)).map k := by
  induction p with
  | nil => rfl
  | cons r t ih => rw [List.map_cons, List.map_cons, List.map_cons, ih, r.1]
theorem kv_mono {κ β : Type} {F F' : V → β → Prop} {k : κ → Key} (h : ∀ v b, F v b → F' v b) {kvs : List (Key × V)} {l : List (κ × β)} (p : Paired (KV k F) kvs l) : Paired (KV k F') kvs l := L2.Paired.mapP p fun _ _ z => ⟨z.1, h _ _ z.2⟩
end SP

set_option Elab.async false
set_option linter.all false
set_option maxRecDepth 100000
set_option maxHeartbeats 4000000
/-! What is walked, targets, locks, one step at a time. -/
namespace SP
open PySem PySem.Spec PyProof.Rows L2
def rStrI (v : V) (H : Hp) (R : It → Hp → Prop) : Prop := ∃ x, v = .str x ∧ R (Its x) H
abbrev uStrI (te : TE) : TI := fun σ H R => te σ H fun v H1 => rStrI v H1 R
def rItm (x : V) (H1 : Hp) (R : It → Hp → Prop) : Prop := ∃ d o kvs, x = .ref d ∧ H1 d = some (.frz o (.dK kvs)) ∧ R (Iti d o kvs) H1
abbrev uItems (td : TE) : TI := fun σ H R => td σ H fun x H1 => rItm x H1 R
def rVls (x : V) (H1 : Hp) (R : It → Hp → Prop) : Prop := ∃ d o kvs, x = .ref d ∧ H1 d = some (.frz o (.dK kvs)) ∧ R (Itd d o kvs) H1
abbrev uVals (td : TE) : TI := fun σ H R => td σ H fun x H1 => rVls x H1 R
def rKym (x : V) (H1 : Hp) (R : It → Hp → Prop) : Prop := ∃ d o kvs, x = .ref d ∧ H1 d = some (.frz o (.dK kvs)) ∧ R (Itk d o kvs) H1
abbrev uKeysM (td : TE) : TI := fun σ H R => td σ H fun x H1 => rKym x H1 R
def rKys (x : V) (H1 : Hp) (R : It → Hp → Prop) : Prop := ∃ d o, x = .ref d ∧ ((∃ kvs, H1 d = some (.frz o (.dK kvs)) ∧ R (Itk d o kvs) H1) ∨ ∃ kvs, H1 d = some (.frz o (.dT kvs)) ∧ R (Itkt d o kvs) H1)
abbrev uKeys (td : TE) : TI := fun σ H R => td σ H fun x H1 => rKys x H1 R
section
variable {K : PySem.W.Frag} {σ : L2.St} {H : Hp} {Q : VK} {g g1 g2 : TG} {R : It → Hp → Prop} {q : L2.St → Hp → Prop} {x y v : V} {D : Ends} {t : TS} {te : TE}
theorem x_m1 {a : Str} {r : V → List V → Hp → VK → Prop} (h : te σ H fun y H2 => r (.str a) [y] H2 Q) : rM1t r te σ (.str a) H Q := ⟨⟨a, rfl⟩, h⟩
theorem x_yes {QB : Bool → Hp → Prop} (h : QB true H) : tYes σ H QB := h
theorem x_istr {z : Str} (h : R (Its z) H) : rStrI (.str z) H R := ⟨z, rfl, h⟩
theorem x_iitm {d : Addr} {o : Obj} {kvs : List (Key × V)} (e : H d = some (.frz o (.dK kvs))) (h : R (Iti d o kvs) H) : rItm (.ref d) H R := ⟨d, o, kvs, rfl, e, h⟩
theorem x_ivls {d : Addr} {o : Obj} {kvs : List (Key × V)} (e : H d = some (.frz o (.dK kvs))) (h : R (Itd d o kvs) H) : rVls (.ref d) H R := ⟨d, o, kvs, rfl, e, h⟩
theorem x_ikym {d : Addr} {o : Obj} {kvs : List (Key × V)} (e : H d = some (.frz o (.dK kvs))) (h : R (Itk d o kvs) H) : rKym (.ref d) H R := ⟨d, o, kvs, rfl, e, h⟩
theorem x_ikys {d : Addr} {o : Obj} {kvs : List (Key × V)} (e : H d = some (.frz o (.dK kvs))) (h : R (Itk d o kvs) H) : rKys (.ref d) H R := ⟨d, o, rfl, .inl ⟨kvs, e, h⟩⟩
/-- two names -/
theorem x_gtupN {T : Addr} {i j : Nat} (e : H T = some (.tup [x, y])) (h : q ((σ.set i (some x)).set j (some y)) H) : gTup K 2 (gCons (vName i) (gCons (vName j) gNil)) (.ref T) σ H q :=
  ⟨T, _, rfl, SqT.of e, rfl, x, [y], rfl, y, [], rfl, rfl, h⟩
/-- a dict is locked for a statement -/
theorem x_lock {d : Addr} {kvs : List (Key × V)} (e : H d = some (.dK kvs)) (h : ∀ od H1, H1 = upd H d (.frz od (.dK kvs)) → t ⟨fun σ' H' => H' d = some (.frz od (.dK kvs)) ∧ D.nx σ' (upd H' d (.dK kvs)), fun v H' => H' d = some (.frz od (.dK kvs)) ∧ D.rt v (upd H' d (.dK kvs)), fun σ' H' => H' d = some (.frz od (.dK kvs)) ∧ D.bk σ' (upd H' d (.dK kvs)), fun σ' H' => H' d = some (.frz od (.dK kvs)) ∧ D.ct σ' (upd H' d (.dK kvs))⟩ σ H1) : tLock t D σ H :=
  ⟨d, .dK kvs, e, trivial, fun od => h od _ rfl⟩
theorem x_lockE {d : Addr} {kvs : List (Key × V)} (e : H d = some (.dK kvs)) (h : ∀ od H1, H1 = upd H d (.frz od (.dK kvs)) → te σ H1 fun v H' => H' d = some (.frz od (.dK kvs)) ∧ Q v (upd H' d (.dK kvs))) : tLockE te σ H Q :=
  ⟨d, .dK kvs, e, trivial, fun od => h od _ rfl⟩
/-- one pair displayed -/
theorem x_disp1 {tk tv : TE} (h : ∀ p H1, H p = none → H1 p = some (.dK []) → Same H H1 → tk σ H1 fun x H2 => tv σ H2 fun y H3 => H3 p = some (.dK []) ∧ ∃ k : Key, x = kV k ∧ Q (.ref p) (upd H3 p (.dK [(k, y)]))) (m1 : ∀ H1 (A B : VK), (∀ v H, A v H → B v H) → tk σ H1 A → tk σ H1 B) (m2 : ∀ H1 (A B : VK), (∀ v H, A v H → B v H) → tv σ H1 A → tv σ H1 B) : tDisp [(tk, tv)] σ H Q := fun p hp =>
  m1 _ _ _ (fun x H2 h2 => m2 _ _ _ (fun y H3 h3 => by
    obtain ⟨e, k, ek, hq⟩ := h3
    exact ⟨e, [(k, y)], by rw [ek]; rfl, by show 1 ≤ 15; decide, hq⟩) h2) (h p _ hp upd_same (Same.new hp))
end
end SP

set_option Elab.async false
set_option linter.all false
set_option maxRecDepth 100000
set_option maxHeartbeats 4000000
/-! Names and paths. -/
namespace SP
open PySem PySem.Spec PyProof.Rows L2
local macro_rules | `(tactic| walk_at "hp") => `(tactic| first
  | assumption
  | exact upd_same
  | (refine' sameAt ?sA ?hA; (case sA => assumption); (case hA => walk_at "hp"))
  | (refine' Eq.trans (upd_ne ?nA) ?hA; (case nA => walk_at "ne"); (case hA => walk_at "hp")))
local macro_rules | `(tactic| walk_at "ne") => `(tactic| first
  | assumption
  | (refine' Ne.symm ?hA; assumption)
  | (refine' ne_of_none (H := _) ?hA (by assumption); walk_at "hp")
  | (refine' Ne.symm (ne_of_none (H := _) ?hA (by assumption)); walk_at "hp")
  | (refine' ne_of ?hA ?hB ?hC; (case hA => assumption); (case hB => walk_at "hp"); (case hC => (intro z; cases z))))
local macro_rules | `(tactic| walk_at "sm") => `(tactic| first
  | exact Same.refl _
  | assumption
  | (refine' sameTr ?sA ?sB; (case sA => assumption); (case sB => walk_at "sm")))
local macro_rules | `(tactic| walk_at "dm") => `(tactic| first
  | exact dmRefl
  | assumption
  | (refine' dmUpd ?dA; (case dA => walk_at "dm"))
  | (refine' dmSame ?sA ?dA; (case sA => assumption); (case dA => walk_at "dm")))
local macro_rules | `(tactic| walk_at "fr") => `(tactic| first
  | assumption
  | (refine' dmAt ?dA ?hA; (case hA => assumption); (case dA => walk_at "dm")))
local macro_rules | `(tactic| walk_at "ab") => `(tactic| (exfalso; refine absurd ?hA (noneSome ?hB); (case hB => walk_at "hp"); (case hA => assumption)))
local macro_rules | `(tactic| walk_at "kp") => `(tactic| first
  | exact Keep.refl
  | assumption
  | (refine' Keep.trans ?kA (keepUpd ?kB ?kC ?kD); (case kB => simp); (case kC => walk_at "hp"); (case kD => (intro xs z; cases z)); (case kA => walk_at "kp"))
  | (refine' keepTr ?kB ?kA; (case kB => assumption); (case kA => walk_at "kp"))
  | (refine' keepSm ?kB ?kA; (case kB => assumption); (case kA => walk_at "kp")))
local macro_rules | `(tactic| walk_at "get") => `(tactic| first
  | (refine' x_get_Files_state ?T ?h ?_) | (refine' x_get_Thing_kind ?T ?h ?_) | (refine' x_get_Thing_entries ?T ?h ?_) | (refine' x_get_Thing_held ?T ?h ?_)
  | (refine' x_get_Files_disk ?T ?h ?_) | (refine' x_get_Files_kept ?T ?h ?_) | (refine' x_get_Files_used ?T ?h ?_)
  | (refine' x_get_Disk_blocks ?T ?h ?_) | (refine' x_get_Disk_log ?T ?h ?_)
  | (refine' x_get_Reader_row ?T ?h ?_) | (refine' x_get_Reader_at ?T ?h ?_) | (refine' x_get_Reader_good ?T ?h ?_)
  | (refine' x_get_Files_slot ?T ?h ?_) | (refine' x_get_Files_turn ?T ?h ?_) | (refine' x_get_Files_is_new ?T ?h ?_))
local macro_rules | `(tactic| walk_at "set") => `(tactic| first
  | ((with_reducible refine' x_set_Disk_blocks ?T ?h ?_); (case T => assumption); (case h => walk_at "hp"))
  | ((with_reducible refine' i_set_Disk_blocks ?T ?h ?_); (case T => assumption); (case h => walk_at "hp"))
  | ((with_reducible refine' x_set_Disk_log ?T ?h ?_); (case T => assumption); (case h => walk_at "hp"))
  | ((with_reducible refine' i_set_Disk_log ?T ?h ?_); (case T => assumption); (case h => walk_at "hp"))
  | ((with_reducible refine' x_set_Thing_kind ?T ?h ?_); (case T => assumption); (case h => walk_at "hp"))
  | ((with_reducible refine' i_set_Thing_kind ?T ?h ?_); (case T => assumption); (case h => walk_at "hp"))
  | ((with_reducible refine' x_set_Thing_held ?T ?h ?_); (case T => assumption); (case h => walk_at "hp"))
  | ((with_reducible refine' i_set_Thing_held ?T ?h ?_); (case T => assumption); (case h => walk_at "hp"))
  | ((with_reducible refine' x_set_Thing_entries ?T ?h ?_); (case T => assumption); (case h => walk_at "hp"))
  | ((with_reducible refine' i_set_Thing_entries ?T ?h ?_); (case T => assumption); (case h => walk_at "hp"))
  | ((with_reducible refine' x_set_Reader_row ?T ?h ?_); (case T => assumption); (case h => walk_at "hp"))
  | ((with_reducible refine' i_set_Reader_row ?T ?h ?_); (case T => assumption); (case h => walk_at "hp"))
  | ((with_reducible refine' x_set_Reader_at ?T ?h ?_); (case T => assumption); (case h => walk_at "hp"))
  | ((with_reducible refine' i_set_Reader_at ?T ?h ?_); (case T => assumption); (case h => walk_at "hp"))
  | ((with_reducible refine' x_set_Reader_good ?T ?h ?_); (case T => assumption); (case h => walk_at "hp"))
  | ((with_reducible refine' i_set_Reader_good ?T ?h ?_); (case T => assumption); (case h => walk_at "hp"))
  | ((with_reducible refine' x_set_Files_disk ?T ?h ?_); (case T => assumption); (case h => walk_at "hp"))
  | ((with_reducible refine' i_set_Files_disk ?T ?h ?_); (case T => assumption); (case h => walk_at "hp"))
  | ((with_reducible refine' x_set_Files_state ?T ?h ?_); (case T => assumption); (case h => walk_at "hp"))
  | ((with_reducible refine' i_set_Files_state ?T ?h ?_); (case T => assumption); (case h => walk_at "hp"))
  | ((with_reducible refine' x_set_Files_kept ?T ?h ?_); (case T => assumption); (case h => walk_at "hp"))
  | ((with_reducible refine' i_set_Files_kept ?T ?h ?_); (case T => assumption); (case h => walk_at "hp"))
  | ((with_reducible refine' x_set_Files_slot ?T ?h ?_); (case T => assumption); (case h => walk_at "hp"))
  | ((with_reducible refine' i_set_Files_slot ?T ?h ?_); (case T => assumption); (case h => walk_at "hp"))
  | ((with_reducible refine' x_set_Files_turn ?T ?h ?_); (case T => assumption); (case h => walk_at "hp"))
  | ((with_reducible refine' i_set_Files_turn ?T ?h ?_); (case T => assumption); (case h => walk_at "hp"))
  | ((with_reducible refine' x_set_Files_used ?T ?h ?_); (case T => assumption); (case h => walk_at "hp"))
  | ((with_reducible refine' i_set_Files_used ?T ?h ?_); (case T => assumption); (case h => walk_at "hp"))
  | ((with_reducible refine' x_set_Files_is_new ?T ?h ?_); (case T => assumption); (case h => walk_at "hp"))
  | ((with_reducible refine' i_set_Files_is_new ?T ?h ?_); (case T => assumption); (case h => walk_at "hp")))
local macro_rules | `(tactic| walk_at "go1") => `(tactic| first
  | ((with_reducible refine w_var (v := ?vv) ?e ?_); (case e => rfl))
  | ((with_reducible walk_at "get"); (case T => assumption); (case h => walk_at "hp"))
  | (with_reducible refine x_bl ?_)
  | (with_reducible refine x_isN ?_) | (with_reducible refine x_notN ?_) | (with_reducible refine x_eqI ?_) | (with_reducible refine x_neI ?_) | (with_reducible refine x_eqS ?_) | (with_reducible refine x_neS ?_)
  | (with_reducible refine x_addI ?_) | (with_reducible refine x_subI ?_) | (with_reducible refine x_ltI ?_) | (with_reducible refine x_leI ?_) | (with_reducible refine x_gtI ?_) | (with_reducible refine x_geI ?_)
  | (with_reducible refine x_bv ?_) | (with_reducible refine x_part ?_) | (with_reducible refine x_neg ?_) | (with_reducible refine x_inS ?_)
  | (walk_at "set")
  | ((with_reducible refine' x_bmL ?h ?_); (case h => walk_at "hp")) | ((with_reducible refine' x_bmL0 ?h ?_); (case h => walk_at "hp")))
local macro_rules | `(tactic| walk_at "go") => `(tactic| ((try with_reducible (conv => whnf)); repeat ((walk_at "go1"); (try with_reducible (conv => whnf)))))
def txt_SIGNS : Str := "abcdefghijklmnopqrstuvwxyzABCDEFGHIJKLMNOPQRSTUVWXYZ0123456789._-"
def signIn (c : Nat) : Bool := decide (c ∈ txt_SIGNS.cps.toList)
def isName (t : Str) : Bool := (decide (1 ≤ (t.length : Int)) && decide ((t.length : Int) ≤ 8)) && (!(inV (.str t) [.str ".", .str ".."]) && t.cps.toList.all signIn)
def sp_is_name (K : PySem.W.Frag) : Sp := fun vs H Q E => ∃ t : Str, vs = [.str t] ∧ t.length ≤ 100000 ∧ ∀ H', Same H H' → Q (.bl (isName t)) H'
def t_is_name (K : PySem.W.Frag) (W : WX) : TS := uSeq (uIfS (uOr (uNot (uTest (uChain rLeI rLeI (uC (.int 1)) (uCB cLenS (uCons (tVar 0) uNil)) (uC (.int 8))))) (uTest (uOp (rInQ K) (tVar 0) (uTup (uCons (uC (.str ".")) (uCons (uC (.str "..")) uNil)))))) (uRet (uC (.bl false))) uNext)
    (uRet (uCB (rAll K) (uCons (uLc (uStrI (tVar 0)) (vName 1) tYes (uOp rInS (tVar 1) (uC (.str txt_SIGNS))) [1]) uNil)))
theorem take_snoc {α : Type} {xs : List α} {i : Nat} {x : α} (h : xs[i]? = some x) : xs.take (i + 1) = xs.take i ++ [x] := by
  rw [List.take_add_one, h]
  rfl
theorem pure_is_name {K : PySem.W.Frag} {vs : List V} {H : Hp} {Q : VK} {E : XK} (h : sp_is_name K vs H Q E) : t_is_name K (WE1 E) (fin Q) (start ["text", "sign"] vs) H := by
  obtain ⟨t, rfl, hl, q⟩ := h
  have hz : t.length ≤ sizeLine := Nat.le_trans hl (by rw [sizeLine_eq]; decide)
  show t_is_name K _ (fin Q) [some (.str t), none] H
  have last : ∀ H1, Same H H1 → isName t = t.cps.toList.all signIn → rLc (Its t) (vName 1) tYes (uOp rInS (tVar 1) (uC (.str txt_SIGNS))) [1] [some (.str t), none] H1 fun v H2 => rAll K [v] H2 Q := fun H1 s1 e => by
    refine x_lcW walk_str (fun i acc _ => acc = (t.cps.toList.take i).map fun c => V.bl (signIn c)) (fun _ _ _ _ _ h => h) (fun _ _ => trivial) (by exact hl) rfl (fun i x D H' H'' acc P P0 hi nD hD s2 hP hY k1 k2 => ?_) (fun D H' acc nD hD lA s2 hP => ?_)
    · obtain ⟨rfl, c, hc, rfl⟩ := hY
      refine ⟨rfl, ?_⟩
      refine x_yes ?_
      refine x_ifT rfl ?_
      walk_at "go"
      refine k1 _ _ (Same.refl _) ?_
      subst hP
      have hc2 : t.cps.toList[i]? = some c := by rw [← hc]; simp
      rw [take_snoc hc2, List.map_append]
      rfl
    · refine ⟨D, t.cps.toList.map signIn, rfl, SqL.of ?_, ?_⟩
      · rw [hD, hP, List.map_map]
        have e3 : t.cps.toList.take t.cps.size = t.cps.toList := List.take_of_length_le (by rw [Array.length_toList]; exact Nat.le_refl _)
        rw [e3]
        rfl
      · rw [List.all_map]
        have e2 : t.cps.toList.all (id ∘ signIn) = isName t := by rw [e]; rfl
        rw [e2]
        exact q _ (s1.trans s2)
  unfold t_is_name
  walk_at "go"
  refine x_lenS hz ?_
  walk_at "go"
  have no : isName t = false → ∀ H1, Same H H1 → Q (.bl false) H1 := fun e H1 s1 => by
    rw [← e]
    exact q H1 s1
  by_cases c1 : 1 ≤ (t.length : Int)
  · refine x_ifT (decide_eq_true c1) ?_
    walk_at "go"
    by_cases c2 : (t.length : Int) ≤ 8
    · refine x_ifF (by rw [decide_eq_true c2]; rfl) ?_
      walk_at "go"
      refine x_tup fun p H1 np hp s1 => ?_
      refine ⟨p, _, rfl, .inr (SqT.of hp), rfl, rfl, ?_⟩
      walk_at "go"
      refine x_if (fun hi => ?_) (fun hi => ?_)
      · walk_at "go"
        exact no (by unfold isName; rw [show inV (.str t) [.str ".", .str ".."] = true from hi, Bool.not_true, Bool.false_and, Bool.and_false]) H1 s1
      · walk_at "go"
        refine x_istr ?_
        exact last H1 s1 (by unfold isName; rw [show inV (.str t) [.str ".", .str ".."] = false from hi, decide_eq_true c1, decide_eq_true c2]; rfl)
    · refine x_ifT (by rw [decide_eq_false c2]; rfl) ?_
      walk_at "go"
      exact no (by unfold isName; rw [decide_eq_false c2, Bool.and_false, Bool.false_and]) H (Same.refl H)
  · refine x_ifF (decide_eq_false c1) ?_
    walk_at "go"
    refine x_ifT rfl ?_
    walk_at "go"
    exact no (by unfold isName; rw [decide_eq_false c1, Bool.false_and, Bool.false_and]) H (Same.refl H)
/-! ### need_name, parts -/
def sp_need_name (K : PySem.W.Frag) : Sp := fun vs H Q E => ∃ t : Str, vs = [.str t] ∧ t.length ≤ 100000 ∧ (isName t = true → ∀ H', Same H H' → Q .non H') ∧ (isName t = false → ∀ H', Same H H' → Exn K E "BadName" H')
def t_need_name (K : PySem.W.Frag) (W : WX) : TS := uIfS (uNot (uTest (uCallW (sp_is_name K) W (uCons (tVar 0) uNil)))) (uRaiseW W (He.ga K "BadName")) uNext
theorem pure_need_name {K : PySem.W.Frag} {vs : List V} {H : Hp} {Q : VK} {E : XK} (h : sp_need_name K vs H Q E) : t_need_name K (WE1 E) (fin Q) (start ["text"] vs) H := by
  obtain ⟨t, rfl, hl, q, e⟩ := h
  show t_need_name K _ (fin Q) [some (.str t)] H
  unfold t_need_name
  walk_at "go"
  refine ⟨t, rfl, hl, fun H1 s1 => ?_⟩
  walk_at "go"
  refine x_if (fun hi => ?_) (fun hi => ?_)
  · walk_at "go"
    exact e (by simpa using hi) _ s1
  · walk_at "go"
    exact q (by simpa using hi) _ s1
def restOf (p : Str) : Str := cutS p (some 1) none
/-- the names of a path; none: it is none -/
def partsOf (p : Str) : Option (List Str) :=
  if p = "/" then some [] else if (60 < (p.length : Int)) ∨ cutS p none (some 1) ≠ "/" then none
  else if (Txt.split (restOf p) "/").all isName = true then some (Txt.split (restOf p) "/") else none
def sp_parts (K : PySem.W.Frag) : Sp := fun vs H Q E => ∃ p : Str, vs = [.str p] ∧ p.length ≤ 100000 ∧ (∀ ns, partsOf p = some ns → ∀ a H', H a = none → H' a = some (.lst (ns.map V.str)) → Same H H' → Q (.ref a) H') ∧ (partsOf p = none → ∀ H', Same H H' → Exn K E "BadName" H')
def t_parts (K : PySem.W.Frag) (W : WX) : TS := uSeq (uIfS (uTest (uOp rEq (tVar 0) (uC (.str "/")))) (uRet (uLst uNil)) uNext)
    (uSeq (uIfS (uOr (uTest (uOp rGtI (uCB cLenS (uCons (tVar 0) uNil)) (uC (.int 60)))) (uTest (uOp rNe (uSl rSlS (tVar 0) uNoPart (uPart (uC (.int 1)))) (uC (.str "/"))))) (uRaiseW W (He.ga K "BadName")) uNext)
    (uSeq (uAsg (uM1 rSplitS (uSl rSlS (tVar 0) (uPart (uC (.int 1))) uNoPart) (uC (.str "/"))) (vName 1))
    (uSeq (uFor (jList K (tVar 1)) (vName 2) (uDrop (uCallW (sp_need_name K) W (uCons (tVar 2) uNil))))
    (uRet (tVar 1)))))
theorem le_sum {y : Str} : ∀ {l : List Str}, y ∈ l → y.length ≤ (l.map (·.length)).sum
  | a :: r, h => by
    rw [List.map_cons, List.sum_cons]
    rcases List.mem_cons.mp h with e | e
    · rw [e]
      exact Nat.le_add_right _ _
    · exact Nat.le_trans (le_sum e) (Nat.le_add_left _ _)
theorem split_size {x s : Str} : ∀ y ∈ Txt.split x s, y.length ≤ x.length := fun y hy => by
  unfold Txt.split at hy
  split at hy
  · rw [List.mem_singleton.mp hy]
    exact Nat.le_refl _
  split at hy
  · rw [List.mem_singleton.mp hy]
    exact Nat.le_refl _
  · have h1 := le_sum hy
    have h2 := StrLaws.glued_between_self x s (x.length + 1)
    have h3 := congrArg Str.length h2
    rw [size_glued] at h3
    omega
theorem split_len {x : Str} (h : x.length ≤ 1000) : ∀ y ∈ Txt.split x "/", y.length ≤ 100000 := fun y hy => Nat.le_trans (split_size y hy) (by omega)
theorem cutS_len (z : Str) (lo hi : Option Int) : (cutS z lo hi).length ≤ z.length := by
  show ((z.cps.toList.drop _).take _).toArray.size ≤ z.cps.size
  rw [List.size_toArray, List.length_take, List.length_drop, Array.length_toList]
  omega
theorem pure_parts {K : PySem.W.Frag} {vs : List V} {H : Hp} {Q : VK} {E : XK} (h : sp_parts K vs H Q E) : t_parts K (WE1 E) (fin Q) (start ["path", "names", "name"] vs) H := by
  obtain ⟨p, rfl, hl, q, e⟩ := h
  have hz : p.length ≤ sizeLine := Nat.le_trans hl (by rw [sizeLine_eq]; decide)
  show t_parts K _ (fin Q) [some (.str p), none, none] H
  unfold t_parts
  walk_at "go"
  by_cases c0 : p = "/"
  · refine x_ifT (decide_eq_true c0) ?_
    walk_at "go"
    refine x_lst fun a H1 na ha s1 => ?_
    exact q [] (if_pos c0) a H1 na ha s1
  refine x_ifF (decide_eq_false c0) ?_
  walk_at "go"
  refine x_lenS hz ?_
  walk_at "go"
  by_cases c1 : 60 < (p.length : Int)
  · refine x_ifT (decide_eq_true c1) ?_
    walk_at "go"
    refine x_ifT rfl ?_
    walk_at "go"
    exact e (by unfold partsOf; rw [if_neg c0, if_pos (.inl c1)]) H (Same.refl H)
  refine x_ifF (decide_eq_false c1) ?_
  walk_at "go"
  refine x_slS hz ?_
  walk_at "go"
  by_cases c2 : cutS p none (some 1) = "/"
  · refine x_ifF (by rw [decide_eq_true c2]; rfl) ?_
    walk_at "go"
    refine x_slS hz ?_
    walk_at "go"
    refine x_m1 ?_
    walk_at "go"
    have hc60 : p.length ≤ 60 := by omega
    have hr : (restOf p).length ≤ 1000 := Nat.le_trans (cutS_len p _ _) (by omega)
    refine x_split rfl (by rw [sizeLine_eq]; show (restOf p).length + 2 ≤ _; omega) fun a H1 na ha s1 => ?_
    have ha : H1 a = some (.lst ((Txt.split (restOf p) "/").map V.str)) := ha
    have sl := split_len hr
    have ex : partsOf p = if (Txt.split (restOf p) "/").all isName = true then some (Txt.split (restOf p) "/") else none := by
      unfold partsOf
      rw [if_neg c0, if_neg (by
        rintro (z | z)
        · exact c1 z
        · exact z c2)]
    generalize Txt.split (restOf p) "/" = ns at ha sl ex
    walk_at "go"
    refine x_ilist (SqL.of ha) ?_
    refine x_forL (xs := ns.map V.str) (fun i σ H' => (∃ o, σ = [some (.str p), some (.ref a), o]) ∧ Same H1 H' ∧ (ns.take i).all isName = true) ⟨⟨_, rfl⟩, Same.refl _, rfl⟩ (fun i σ H' _ h => SqL.of (h.2.1 _ _ ha)) (fun i x σ H' hx h => ?_) (fun σ H' h => ?_)
    · obtain ⟨⟨o, rfl⟩, s, hn⟩ := h
      rw [List.getElem?_map] at hx
      obtain ⟨t, ht, rfl⟩ := Option.map_eq_some_iff.mp hx
      walk_at "go"
      refine ⟨t, rfl, sl t (List.mem_of_getElem? ht), fun et H2 s2 => ?_, fun et H2 s2 => ?_⟩
      · walk_at "go"
        refine ⟨⟨_, rfl⟩, s.trans s2, ?_⟩
        rw [take_snoc ht, List.all_append, hn]
        simp [et]
      · refine e ?_ _ ((s1.trans s).trans s2)
        rw [ex, if_neg]
        intro z
        have := List.all_eq_true.mp z t (List.mem_of_getElem? ht)
        rw [et] at this
        cases this
    · obtain ⟨⟨o, rfl⟩, s, hn⟩ := h
      walk_at "go"
      rw [List.length_map, List.take_length] at hn
      exact q ns (by rw [ex, if_pos hn]) a H' na (s _ _ ha) (s1.trans s)
  · refine x_ifT (by rw [decide_eq_false c2]; rfl) ?_
    walk_at "go"
    exact e (by unfold partsOf; rw [if_neg c0, if_pos (.inr c2)]) H (Same.refl H)
end SP

set_option Elab.async false
set_option linter.all false
set_option maxRecDepth 100000
set_option maxHeartbeats 4000000
/-! Things and states. -/
namespace SP
open PySem PySem.Spec PyProof.Rows L2
local macro_rules | `(tactic| walk_at "hp") => `(tactic| first
  | assumption
  | exact upd_same
  | (refine' sameAt ?sA ?hA; (case sA => assumption); (case hA => walk_at "hp"))
  | (refine' Eq.trans (upd_ne ?nA) ?hA; (case nA => walk_at "ne"); (case hA => walk_at "hp")))
local macro_rules | `(tactic| walk_at "ne") => `(tactic| first
  | assumption
  | (refine' Ne.symm ?hA; assumption)
  | (refine' ne_of_none (H := _) ?hA (by assumption); walk_at "hp")
  | (refine' Ne.symm (ne_of_none (H := _) ?hA (by assumption)); walk_at "hp")
  | (refine' ne_of ?hA ?hB ?hC; (case hA => assumption); (case hB => walk_at "hp"); (case hC => (intro z; cases z))))
local macro_rules | `(tactic| walk_at "sm") => `(tactic| first
  | exact Same.refl _
  | assumption
  | (refine' sameTr ?sA ?sB; (case sA => assumption); (case sB => walk_at "sm")))
local macro_rules | `(tactic| walk_at "dm") => `(tactic| first
  | exact dmRefl
  | assumption
  | (refine' dmUpd ?dA; (case dA => walk_at "dm"))
  | (refine' dmSame ?sA ?dA; (case sA => assumption); (case dA => walk_at "dm")))
local macro_rules | `(tactic| walk_at "fr") => `(tactic| first
  | assumption
  | (refine' dmAt ?dA ?hA; (case hA => assumption); (case dA => walk_at "dm")))
local macro_rules | `(tactic| walk_at "ab") => `(tactic| (exfalso; refine absurd ?hA (noneSome ?hB); (case hB => walk_at "hp"); (case hA => assumption)))
local macro_rules | `(tactic| walk_at "kp") => `(tactic| first
  | exact Keep.refl
  | assumption
  | (refine' Keep.trans ?kA (keepUpd ?kB ?kC ?kD); (case kB => simp); (case kC => walk_at "hp"); (case kD => (intro xs z; cases z)); (case kA => walk_at "kp"))
  | (refine' keepTr ?kB ?kA; (case kB => assumption); (case kA => walk_at "kp"))
  | (refine' keepSm ?kB ?kA; (case kB => assumption); (case kA => walk_at "kp")))
local macro_rules | `(tactic| walk_at "get") => `(tactic| first
  | (refine' x_get_Files_state ?T ?h ?_) | (refine' x_get_Thing_kind ?T ?h ?_) | (refine' x_get_Thing_entries ?T ?h ?_) | (refine' x_get_Thing_held ?T ?h ?_)
  | (refine' x_get_Files_disk ?T ?h ?_) | (refine' x_get_Files_kept ?T ?h ?_) | (refine' x_get_Files_used ?T ?h ?_)
  | (refine' x_get_Disk_blocks ?T ?h ?_) | (refine' x_get_Disk_log ?T ?h ?_)
  | (refine' x_get_Reader_row ?T ?h ?_) | (refine' x_get_Reader_at ?T ?h ?_) | (refine' x_get_Reader_good ?T ?h ?_)
  | (refine' x_get_Files_slot ?T ?h ?_) | (refine' x_get_Files_turn ?T ?h ?_) | (refine' x_get_Files_is_new ?T ?h ?_))
local macro_rules | `(tactic| walk_at "set") => `(tactic| first
  | ((with_reducible refine' x_set_Disk_blocks ?T ?h ?_); (case T => assumption); (case h => walk_at "hp"))
  | ((with_reducible refine' i_set_Disk_blocks ?T ?h ?_); (case T => assumption); (case h => walk_at "hp"))
  | ((with_reducible refine' x_set_Disk_log ?T ?h ?_); (case T => assumption); (case h => walk_at "hp"))
  | ((with_reducible refine' i_set_Disk_log ?T ?h ?_); (case T => assumption); (case h => walk_at "hp"))
  | ((with_reducible refine' x_set_Thing_kind ?T ?h ?_); (case T => assumption); (case h => walk_at "hp"))
  | ((with_reducible refine' i_set_Thing_kind ?T ?h ?_); (case T => assumption); (case h => walk_at "hp"))
  | ((with_reducible refine' x_set_Thing_held ?T ?h ?_); (case T => assumption); (case h => walk_at "hp"))
  | ((with_reducible refine' i_set_Thing_held ?T ?h ?_); (case T => assumption); (case h => walk_at "hp"))
  | ((with_reducible refine' x_set_Thing_entries ?T ?h ?_); (case T => assumption); (case h => walk_at "hp"))
  | ((with_reducible refine' i_set_Thing_entries ?T ?h ?_); (case T => assumption); (case h => walk_at "hp"))
  | ((with_reducible refine' x_set_Reader_row ?T ?h ?_); (case T => assumption); (case h => walk_at "hp"))
  | ((with_reducible refine' i_set_Reader_row ?T ?h ?_); (case T => assumption); (case h => walk_at "hp"))
  | ((with_reducible refine' x_set_Reader_at ?T ?h ?_); (case T => assumption); (case h => walk_at "hp"))
  | ((with_reducible refine' i_set_Reader_at ?T ?h ?_); (case T => assumption); (case h => walk_at "hp"))
  | ((with_reducible refine' x_set_Reader_good ?T ?h ?_); (case T => assumption); (case h => walk_at "hp"))
  | ((with_reducible refine' i_set_Reader_good ?T ?h ?_); (case T => assumption); (case h => walk_at "hp"))
  | ((with_reducible refine' x_set_Files_disk ?T ?h ?_); (case T => assumption); (case h => walk_at "hp"))
  | ((with_reducible refine' i_set_Files_disk ?T ?h ?_); (case T => assumption); (case h => walk_at "hp"))
  | ((with_reducible refine' x_set_Files_state ?T ?h ?_); (case T => assumption); (case h => walk_at "hp"))
  | ((with_reducible refine' i_set_Files_state ?T ?h ?_); (case T => assumption); (case h => walk_at "hp"))
  | ((with_reducible refine' x_set_Files_kept ?T ?h ?_); (case T => assumption); (case h => walk_at "hp"))
  | ((with_reducible refine' i_set_Files_kept ?T ?h ?_); (case T => assumption); (case h => walk_at "hp"))
  | ((with_reducible refine' x_set_Files_slot ?T ?h ?_); (case T => assumption); (case h => walk_at "hp"))
  | ((with_reducible refine' i_set_Files_slot ?T ?h ?_); (case T => assumption); (case h => walk_at "hp"))
  | ((with_reducible refine' x_set_Files_turn ?T ?h ?_); (case T => assumption); (case h => walk_at "hp"))
  | ((with_reducible refine' i_set_Files_turn ?T ?h ?_); (case T => assumption); (case h => walk_at "hp"))
  | ((with_reducible refine' x_set_Files_used ?T ?h ?_); (case T => assumption); (case h => walk_at "hp"))
  | ((with_reducible refine' i_set_Files_used ?T ?h ?_); (case T => assumption); (case h => walk_at "hp"))
  | ((with_reducible refine' x_set_Files_is_new ?T ?h ?_); (case T => assumption); (case h => walk_at "hp"))
  | ((with_reducible refine' i_set_Files_is_new ?T ?h ?_); (case T => assumption); (case h => walk_at "hp")))
local macro_rules | `(tactic| walk_at "go1") => `(tactic| first
  | ((with_reducible refine w_var (v := ?vv) ?e ?_); (case e => rfl))
  | ((with_reducible walk_at "get"); (case T => assumption); (case h => walk_at "hp"))
  | (with_reducible refine x_bl ?_)
  | (with_reducible refine x_isN ?_) | (with_reducible refine x_notN ?_) | (with_reducible refine x_eqI ?_) | (with_reducible refine x_neI ?_) | (with_reducible refine x_eqS ?_) | (with_reducible refine x_neS ?_)
  | (with_reducible refine x_addI ?_) | (with_reducible refine x_subI ?_) | (with_reducible refine x_ltI ?_) | (with_reducible refine x_leI ?_) | (with_reducible refine x_gtI ?_) | (with_reducible refine x_geI ?_)
  | (with_reducible refine x_bv ?_) | (with_reducible refine x_part ?_) | (with_reducible refine x_neg ?_) | (with_reducible refine x_inS ?_)
  | (walk_at "set")
  | ((with_reducible refine' x_bmL ?h ?_); (case h => walk_at "hp")) | ((with_reducible refine' x_bmL0 ?h ?_); (case h => walk_at "hp")))
local macro_rules | `(tactic| walk_at "go") => `(tactic| ((try with_reducible (conv => whnf)); repeat ((walk_at "go1"); (try with_reducible (conv => whnf)))))
structure Th where
  dir : Bool
  held : List Int
  ents : List (Str × Int)
def kindS (b : Bool) : Str := if b then "dir" else "file"
def ek (es : List (Str × Int)) : List (Key × V) := es.map fun e => (Sum.inr e.1, V.int e.2)
/-- a thing's value, its entries' dict at el -/
def ThE (K : PySem.W.Frag) (H : Hp) (v : V) (el : Addr) (t : Th) : Prop := ∃ p dx hl, v = .ref p ∧ H p = some (oThing K dx (.str (kindS t.dir)) (.ref hl) (.ref el)) ∧ H hl = some (.lst (t.held.map V.int)) ∧ H el = some (.dK (ek t.ents))
def ThAt (K : PySem.W.Frag) (H : Hp) (v : V) (t : Th) : Prop := ∃ el, ThE K H v el t
abbrev St := List (Int × Th)
def StateAt (K : PySem.W.Frag) (H : Hp) (s : Addr) (S : St) : Prop := ∃ kvs, H s = some (.dK kvs) ∧ Paired (KV Sum.inl (ThAt K H)) kvs S
abbrev Xs := List (Int × (Th × Addr))
def er (X : Xs) : St := X.map fun x => (x.1, x.2.1)
def els (X : Xs) : List Addr := X.map fun x => x.2.2
/-- a state that nobody else holds -/
structure OwnAt (K : PySem.W.Frag) (H : Hp) (s : Addr) (X : Xs) : Prop where
  at_ : ∃ kvs, H s = some (.dK kvs) ∧ Paired (KV Sum.inl fun v y => ThE K H v y.2 y.1) kvs X
  ns : ∀ x ∈ X, x.2.2 ≠ s
  ne : ∀ x ∈ X, ∀ y ∈ X, x.2.2 = y.2.2 → x.1 = y.1
  kd : (X.map (·.1)).Nodup
theorem ThE.same {K : PySem.W.Frag} {H H' : Hp} {v : V} {el : Addr} {t : Th} (s : Same H H') (h : ThE K H v el t) : ThE K H' v el t := by
  obtain ⟨p, dx, hl, e, h1, h2, h3⟩ := h
  exact ⟨p, dx, hl, e, s _ _ h1, s _ _ h2, s _ _ h3⟩
theorem ThAt.same {K : PySem.W.Frag} {H H' : Hp} {v : V} {t : Th} (s : Same H H') (h : ThAt K H v t) : ThAt K H' v t := by
  obtain ⟨el, h⟩ := h
  exact ⟨el, h.same s⟩
theorem StateAt.same {K : PySem.W.Frag} {H H' : Hp} {a : Addr} {S : St} (s : Same H H') (h : StateAt K H a S) : StateAt K H' a S := by
  obtain ⟨kvs, e, p⟩ := h
  exact ⟨kvs, s _ _ e, kv_mono (fun _ _ z => z.same s) p⟩
theorem OwnAt.same {K : PySem.W.Frag} {H H' : Hp} {a : Addr} {X : Xs} (s : Same H H') (h : OwnAt K H a X) : OwnAt K H' a X := by
  obtain ⟨⟨kvs, e, p⟩, n, m, d⟩ := h
  exact ⟨⟨kvs, s _ _ e, kv_mono (fun _ _ z => z.same s) p⟩, n, m, d⟩
theorem OwnAt.state {K : PySem.W.Frag} {H : Hp} {a : Addr} {X : Xs} (h : OwnAt K H a X) : StateAt K H a (er X) := by
  obtain ⟨⟨kvs, e, p⟩, n, m, d⟩ := h
  refine ⟨kvs, e, ?_⟩
  clear e n m d
  unfold er
  induction p with
  | nil => exact .nil
  | cons r t ih => exact .cons ⟨r.1, _, r.2⟩ ih
theorem nw_same (H H' : Hp) : Same (nw H H') H' := fun a o h => (nw_none h).2
theorem nw_avS {ms : List Addr} {H H' : Hp} (h : ∀ a ∈ ms, (H a).isSome = true) : Same (nw H H') (av ms H') := fun a o e => by
  obtain ⟨h1, h2⟩ := nw_none e
  exact av_at h2 fun z => by
    have q := h a z
    rw [h1] at q
    cases q
theorem nw_sameR {H0 H H' H'' : Hp} (b : Same H0 H) (e : Same H' H'') : Same (nw H H') (nw H0 H'') := fun a o h => by
  obtain ⟨h1, h2⟩ := nw_none h
  exact nw_new (b.free h1) (e a o h2)
theorem nw_upd {H H' : Hp} {p : Addr} {o : HO} (h : H p = none) : nw H (upd H' p o) = upd (nw H H') p o := by
  funext a
  by_cases e : a = p
  · subst e
    rw [upd_same, nw_new h upd_same]
  · rw [upd_ne e]
    unfold nw
    rw [upd_ne e]
theorem inl_inj {a b : Int} (h : (Sum.inl a : Key) = Sum.inl b) : a = b := by cases h; rfl
theorem inr_inj {a b : Str} (h : (Sum.inr a : Key) = Sum.inr b) : a = b := by cases h; rfl
theorem ek_paired (es : List (Str × Int)) : Paired (KV Sum.inr fun v i => v = V.int i) (ek es) es := by
  induction es with
  | nil => exact .nil
  | cons e r ih => exact .cons ⟨rfl, rfl⟩ ih
theorem ek_of {kvs : List (Key × V)} {es : List (Str × Int)} (h : Paired (KV Sum.inr fun v i => v = V.int i) kvs es) : kvs = ek es := by
  induction h with
  | nil => rfl
  | cons r t ih =>
    rename_i x y xs ys
    obtain ⟨a, b⟩ := x
    obtain ⟨e1, e2⟩ := r
    simp only at e1 e2
    rw [e1, e2, ih]
    rfl
theorem ek_get (es : List (Str × Int)) (j : Str) : valV (ek es) (Sum.inr j) = (lk es j).map V.int := by
  have h := kv_get (k := Sum.inr) (F := fun v i => v = V.int i) (fun _ _ => inr_inj) (j := j) (ek_paired es)
  cases e : lk es j with
  | none => rw [h.2 e]; rfl
  | some i =>
    obtain ⟨v, e1, e2⟩ := h.1 i e
    rw [e1, e2]
    rfl
theorem ek_put (es : List (Str × Int)) (j : Str) (i : Int) : putK (ek es) (Sum.inr j) (.int i) = ek (pt es j i) := ek_of (kv_put (k := Sum.inr) (F := fun v i => v = V.int i) (fun _ _ => inr_inj) (ek_paired es) rfl)
theorem ek_drop (es : List (Str × Int)) (j : Str) : dropK (ek es) (Sum.inr j) = ek (dp es j) := ek_of (kv_drop (k := Sum.inr) (F := fun v i => v = V.int i) (fun _ _ => inr_inj) (ek_paired es))
theorem ek_len (es : List (Str × Int)) : (ek es).length = es.length := List.length_map ..
theorem ek_keys (es : List (Str × Int)) : (ek es).map (·.1) = (es.map (·.1)).map Sum.inr := by
  unfold ek
  rw [List.map_map, List.map_map]
  rfl
theorem sq_same {K : PySem.W.Frag} {H H' : Hp} {a : Addr} {xs : List V} (s : Same H H') (h : SqL K H a xs) : SqL K H' a xs := (Same.le s).sql h
/-! ### Thing.__init__ -/
def sp_Thing___init__ (K : PySem.W.Frag) : Sp := fun vs H Q E => ∃ (p dx l e : Addr) (k : Str) (xs : List V) (kvs : List (Key × V)), vs = [.ref p, .str k, .ref l, .ref e] ∧ H p = some (.ins (He.ga K "Thing") dx []) ∧ SqL K H l xs ∧ Rd H e (.dK kvs) ∧
  ∀ hl el H', H hl = none → H el = none → Keep [p] H H' → H' p = some (oThing K dx (.str k) (.ref hl) (.ref el)) → H' hl = some (.lst xs) → H' el = some (.dK kvs) → Q .non H'
def t_Thing___init__ (K : PySem.W.Frag) (W : WX) : TS := uSeq (uFldS K (tVar 0) (tVar 1) "kind")
    (uSeq (uFldS K (tVar 0) (uCB (cList K) (uCons (tVar 2) uNil)) "held")
    (uFldS K (tVar 0) (uCB cDictD (uCons (tVar 3) uNil)) "entries"))
theorem pure_Thing___init__ {K : PySem.W.Frag} (T : PxThing K) {vs : List V} {H : Hp} {Q : VK} {E : XK} (h : sp_Thing___init__ K vs H Q E) : t_Thing___init__ K (WE1 E) (fin Q) (start ["self", "kind", "held", "entries"] vs) H := by
  obtain ⟨p, dx, l, e, k, xs, kvs, rfl, hp, hl, he, q⟩ := h
  have npl : ∀ {ys}, H l = some (.lst ys) → l ≠ p := fun z => ne_of z hp (by intro z; cases z)
  have nep : ∀ {ys}, H e = some (.dK ys) → e ≠ p := fun z => ne_of z hp (by intro z; cases z)
  show t_Thing___init__ K _ (fin Q) [some (.ref p), some (.str k), some (.ref l), some (.ref e)] H
  unfold t_Thing___init__
  walk_at "go"
  have hl1 : SqL K (upd H p (.ins (He.ga K "Thing") dx [("kind", .str k)])) l xs := by
    rcases hl with (hl | ⟨o, hl⟩) | hl
    · exact .inl (.inl (by rw [upd_ne (npl hl)]; exact hl))
    · exact .inl (.inr ⟨o, by rw [upd_ne (ne_of hl hp (by intro z; cases z))]; exact hl⟩)
    · exact .inr hl
  refine x_listL hl1 fun a H2 na ha s2 => ?_
  walk_at "go"
  have he2 : Rd H2 e (.dK kvs) := by
    rcases he with he | ⟨o, he⟩
    · exact .inl (s2 _ _ (by rw [upd_ne (nep he)]; exact he))
    · exact .inr ⟨o, s2 _ _ (by rw [upd_ne (ne_of he hp (by intro z; cases z))]; exact he)⟩
  have hp2 : H2 p = some (.ins (He.ga K "Thing") dx [("kind", .str k)]) := s2 _ _ upd_same
  have he3 : Rd (upd H2 p (.ins (He.ga K "Thing") dx [("kind", .str k), ("held", .ref a)])) e (.dK kvs) := by
    rcases he2 with he | ⟨o, he⟩
    · exact .inl (by rw [upd_ne (ne_of he hp2 (by intro z; cases z))]; exact he)
    · exact .inr ⟨o, by rw [upd_ne (ne_of he hp2 (by intro z; cases z))]; exact he⟩
  refine x_dictD he3 fun b H4 nb hb s4 => ?_
  walk_at "go"
  have ha3 : (upd H2 p (.ins (He.ga K "Thing") dx [("kind", .str k), ("held", .ref a)])) a = some (.lst xs) := by
    rw [upd_ne (ne_of ha hp2 (by intro z; cases z))]
    exact ha
  have hp4 : H4 p = some (.ins (He.ga K "Thing") dx [("kind", .str k), ("held", .ref a)]) := s4 _ _ upd_same
  have na0 : H a = none := freeUpd na
  have nb0 : H b = none := freeUpd (s2.free (freeUpd nb))
  refine q a b _ na0 nb0 ?_ upd_same ?_ ?_
  · refine ((((keepUpd (by simp) hp (fun xs z => by cases z)).trans (Keep.of s2)).trans (keepUpd (by simp) hp2 (fun xs z => by cases z))).trans (Keep.of s4)).trans (keepUpd (by simp) hp4 (fun xs z => by cases z))
  · rw [upd_ne (ne_of (s4 _ _ ha3) hp4 (by intro z; cases z))]
    exact s4 _ _ ha3
  · rw [upd_ne (ne_of hb hp4 (by intro z; cases z))]
    exact hb
end SP

set_option Elab.async false
set_option linter.all false
set_option maxRecDepth 100000
set_option maxHeartbeats 4000000
/-! States: made, copied, looked at. -/
namespace SP
open PySem PySem.Spec PyProof.Rows L2
local macro_rules | `(tactic| walk_at "hp") => `(tactic| first
  | assumption
  | exact upd_same
  | (refine' sameAt ?sA ?hA; (case sA => assumption); (case hA => walk_at "hp"))
  | (refine' Eq.trans (upd_ne ?nA) ?hA; (case nA => walk_at "ne"); (case hA => walk_at "hp")))
local macro_rules | `(tactic| walk_at "ne") => `(tactic| first
  | assumption
  | (refine' Ne.symm ?hA; assumption)
  | (refine' ne_of_none (H := _) ?hA (by assumption); walk_at "hp")
  | (refine' Ne.symm (ne_of_none (H := _) ?hA (by assumption)); walk_at "hp")
  | (refine' ne_of ?hA ?hB ?hC; (case hA => assumption); (case hB => walk_at "hp"); (case hC => (intro z; cases z))))
local macro_rules | `(tactic| walk_at "sm") => `(tactic| first
  | exact Same.refl _
  | assumption
  | (refine' sameTr ?sA ?sB; (case sA => assumption); (case sB => walk_at "sm")))
local macro_rules | `(tactic| walk_at "dm") => `(tactic| first
  | exact dmRefl
  | assumption
  | (refine' dmUpd ?dA; (case dA => walk_at "dm"))
  | (refine' dmSame ?sA ?dA; (case sA => assumption); (case dA => walk_at "dm")))
local macro_rules | `(tactic| walk_at "fr") => `(tactic| first
  | assumption
  | (refine' dmAt ?dA ?hA; (case hA => assumption); (case dA => walk_at "dm")))
local macro_rules | `(tactic| walk_at "ab") => `(tactic| (exfalso; refine absurd ?hA (noneSome ?hB); (case hB => walk_at "hp"); (case hA => assumption)))
local macro_rules | `(tactic| walk_at "kp") => `(tactic| first
  | exact Keep.refl
  | assumption
  | (refine' Keep.trans ?kA (keepUpd ?kB ?kC ?kD); (case kB => simp); (case kC => walk_at "hp"); (case kD => (intro xs z; cases z)); (case kA => walk_at "kp"))
  | (refine' keepTr ?kB ?kA; (case kB => assumption); (case kA => walk_at "kp"))
  | (refine' keepSm ?kB ?kA; (case kB => assumption); (case kA => walk_at "kp")))
local macro_rules | `(tactic| walk_at "get") => `(tactic| first
  | (refine' x_get_Files_state ?T ?h ?_) | (refine' x_get_Thing_kind ?T ?h ?_) | (refine' x_get_Thing_entries ?T ?h ?_) | (refine' x_get_Thing_held ?T ?h ?_)
  | (refine' x_get_Files_disk ?T ?h ?_) | (refine' x_get_Files_kept ?T ?h ?_) | (refine' x_get_Files_used ?T ?h ?_)
  | (refine' x_get_Disk_blocks ?T ?h ?_) | (refine' x_get_Disk_log ?T ?h ?_)
  | (refine' x_get_Reader_row ?T ?h ?_) | (refine' x_get_Reader_at ?T ?h ?_) | (refine' x_get_Reader_good ?T ?h ?_)
  | (refine' x_get_Files_slot ?T ?h ?_) | (refine' x_get_Files_turn ?T ?h ?_) | (refine' x_get_Files_is_new ?T ?h ?_))
local macro_rules | `(tactic| walk_at "set") => `(tactic| first
  | ((with_reducible refine' x_set_Disk_blocks ?T ?h ?_); (case T => assumption); (case h => walk_at "hp"))
  | ((with_reducible refine' i_set_Disk_blocks ?T ?h ?_); (case T => assumption); (case h => walk_at "hp"))
  | ((with_reducible refine' x_set_Disk_log ?T ?h ?_); (case T => assumption); (case h => walk_at "hp"))
  | ((with_reducible refine' i_set_Disk_log ?T ?h ?_); (case T => assumption); (case h => walk_at "hp"))
  | ((with_reducible refine' x_set_Thing_kind ?T ?h ?_); (case T => assumption); (case h => walk_at "hp"))
  | ((with_reducible refine' i_set_Thing_kind ?T ?h ?_); (case T => assumption); (case h => walk_at "hp"))
  | ((with_reducible refine' x_set_Thing_held ?T ?h ?_); (case T => assumption); (case h => walk_at "hp"))
  | ((with_reducible refine' i_set_Thing_held ?T ?h ?_); (case T => assumption); (case h => walk_at "hp"))
  | ((with_reducible refine' x_set_Thing_entries ?T ?h ?_); (case T => assumption); (case h => walk_at "hp"))
  | ((with_reducible refine' i_set_Thing_entries ?T ?h ?_); (case T => assumption); (case h => walk_at "hp"))
  | ((with_reducible refine' x_set_Reader_row ?T ?h ?_); (case T => assumption); (case h => walk_at "hp"))
  | ((with_reducible refine' i_set_Reader_row ?T ?h ?_); (case T => assumption); (case h => walk_at "hp"))
  | ((with_reducible refine' x_set_Reader_at ?T ?h ?_); (case T => assumption); (case h => walk_at "hp"))
  | ((with_reducible refine' i_set_Reader_at ?T ?h ?_); (case T => assumption); (case h => walk_at "hp"))
  | ((with_reducible refine' x_set_Reader_good ?T ?h ?_); (case T => assumption); (case h => walk_at "hp"))
  | ((with_reducible refine' i_set_Reader_good ?T ?h ?_); (case T => assumption); (case h => walk_at "hp"))
  | ((with_reducible refine' x_set_Files_disk ?T ?h ?_); (case T => assumption); (case h => walk_at "hp"))
  | ((with_reducible refine' i_set_Files_disk ?T ?h ?_); (case T => assumption); (case h => walk_at "hp"))
  | ((with_reducible refine' x_set_Files_state ?T ?h ?_); (case T => assumption); (case h => walk_at "hp"))
  | ((with_reducible refine' i_set_Files_state ?T ?h ?_); (case T => assumption); (case h => walk_at "hp"))
  | ((with_reducible refine' x_set_Files_kept ?T ?h ?_); (case T => assumption); (case h => walk_at "hp"))
  | ((with_reducible refine' i_set_Files_kept ?T ?h ?_); (case T => assumption); (case h => walk_at "hp"))
  | ((with_reducible refine' x_set_Files_slot ?T ?h ?_); (case T => assumption); (case h => walk_at "hp"))
  | ((with_reducible refine' i_set_Files_slot ?T ?h ?_); (case T => assumption); (case h => walk_at "hp"))
  | ((with_reducible refine' x_set_Files_turn ?T ?h ?_); (case T => assumption); (case h => walk_at "hp"))
  | ((with_reducible refine' i_set_Files_turn ?T ?h ?_); (case T => assumption); (case h => walk_at "hp"))
  | ((with_reducible refine' x_set_Files_used ?T ?h ?_); (case T => assumption); (case h => walk_at "hp"))
  | ((with_reducible refine' i_set_Files_used ?T ?h ?_); (case T => assumption); (case h => walk_at "hp"))
  | ((with_reducible refine' x_set_Files_is_new ?T ?h ?_); (case T => assumption); (case h => walk_at "hp"))
  | ((with_reducible refine' i_set_Files_is_new ?T ?h ?_); (case T => assumption); (case h => walk_at "hp")))
local macro_rules | `(tactic| walk_at "go1") => `(tactic| first
  | ((with_reducible refine w_var (v := ?vv) ?e ?_); (case e => rfl))
  | ((with_reducible walk_at "get"); (case T => assumption); (case h => walk_at "hp"))
  | (with_reducible refine x_bl ?_)
  | (with_reducible refine x_isN ?_) | (with_reducible refine x_notN ?_) | (with_reducible refine x_eqI ?_) | (with_reducible refine x_neI ?_) | (with_reducible refine x_eqS ?_) | (with_reducible refine x_neS ?_)
  | (with_reducible refine x_addI ?_) | (with_reducible refine x_subI ?_) | (with_reducible refine x_ltI ?_) | (with_reducible refine x_leI ?_) | (with_reducible refine x_gtI ?_) | (with_reducible refine x_geI ?_)
  | (with_reducible refine x_bv ?_) | (with_reducible refine x_part ?_) | (with_reducible refine x_neg ?_) | (with_reducible refine x_inS ?_)
  | (walk_at "set")
  | ((with_reducible refine' x_bmL ?h ?_); (case h => walk_at "hp")) | ((with_reducible refine' x_bmL0 ?h ?_); (case h => walk_at "hp")))
local macro_rules | `(tactic| walk_at "go") => `(tactic| ((try with_reducible (conv => whnf)); repeat ((walk_at "go1"); (try with_reducible (conv => whnf)))))
theorem x_mkThing {K : PySem.W.Frag} {W : WX} {σ : L2.St} {H : Hp} {Q : VK} {k : Str} {l e : Addr} {xs : List V} {kvs : List (Key × V)} (hl : SqL K H l xs) (he : Rd H e (.dK kvs))
    (q : ∀ p dx a b H', H p = none → H a = none → H b = none → Same H H' → H' p = some (oThing K dx (.str k) (.ref a) (.ref b)) → H' a = some (.lst xs) → H' b = some (.dK kvs) → Q (.ref p) H') : rNewI (He.ga K "Thing") (sp_Thing___init__ K) W σ [.str k, .ref l, .ref e] H Q := by
  refine x_make fun p dx H1 np hp s1 => ?_
  refine ⟨p, dx, l, e, k, xs, kvs, rfl, hp, sq_same s1 hl, ?_, fun a b H2 na nb k2 h1 h2 h3 => ⟨rfl, ?_⟩⟩
  · rcases he with he | ⟨o, he⟩
    · exact .inl (s1 _ _ he)
    · exact .inr ⟨o, s1 _ _ he⟩
  · exact q p dx a b H2 np (s1.free na) (s1.free nb) (keepNew (fun x hx => by rw [List.mem_singleton.mp hx]; exact np) s1 k2) h1 h2 h3
/-! ### tables of things -/
theorem mem_pt {κ β : Type} [DecidableEq κ] {l : List (κ × β)} {k : κ} {v : β} {x : κ × β} (h : x ∈ pt l k v) : x = (k, v) ∨ (x ∈ l ∧ x.1 ≠ k) := by
  cases e : lk l k with
  | none =>
    rw [pt_new v e] at h
    rcases List.mem_append.mp h with h | h
    · exact .inr ⟨h, fun z => lk_none.mp e (by rw [← z]; exact List.mem_map.mpr ⟨x, h, rfl⟩)⟩
    · exact .inl (List.mem_singleton.mp h)
  | some u =>
    rw [pt_old v e] at h
    obtain ⟨y, hy, rfl⟩ := List.mem_map.mp h
    by_cases z : y.1 = k
    · rw [if_pos z]
      exact .inl (by rw [z])
    · rw [if_neg z]
      exact .inr ⟨hy, z⟩
theorem er_pt (X : Xs) (n : Int) (t : Th) (el : Addr) : er (pt X n (t, el)) = pt (er X) n t := by
  have hk : ∀ Y : Xs, ((er Y).any fun kv => decide (kv.1 = n)) = Y.any fun kv => decide (kv.1 = n) := fun Y => by
    unfold er
    rw [List.any_map]
    rfl
  unfold pt
  rw [hk]
  split
  · unfold er
    rw [List.map_map, List.map_map]
    refine List.map_congr_left fun x _ => ?_
    show (_, _) = if x.1 = n then _ else _
    by_cases z : x.1 = n
    · simp [z]
    · simp [z]
  · unfold er
    rw [List.map_append]
    rfl
theorem er_dp (X : Xs) (n : Int) : er (dp X n) = dp (er X) n := by
  unfold er dp
  rw [List.filter_map]
  rfl
theorem lk_er (X : Xs) (n : Int) : lk (er X) n = (lk X n).map (·.1) := by
  induction X with
  | nil => rfl
  | cons x r ih =>
    show lk ((x.1, x.2.1) :: er r) n = _
    obtain ⟨a, b, c⟩ := x
    rw [lk_cons, lk_cons, ih]
    by_cases z : a = n <;> simp [z]
theorem er_keys (X : Xs) : (er X).map (·.1) = X.map (·.1) := by
  unfold er
  rw [List.map_map]
  rfl
theorem kv_and {κ β : Type} {F : V → β → Prop} {P : β → Prop} {k : κ → Key} {kvs : List (Key × V)} {l : List (κ × β)} (p : Paired (KV k F) kvs l) (h : ∀ y ∈ l, P y.2) : Paired (KV k fun v b => F v b ∧ P b) kvs l := by
  induction p with
  | nil => exact .nil
  | cons r t ih => exact .cons ⟨r.1, r.2, h _ List.mem_cons_self⟩ (ih fun y hy => h y (List.mem_cons_of_mem _ hy))
/-- the j-th entry changes by itself -/
theorem kv_upd {κ β : Type} [DecidableEq κ] {F F' : V → β → Prop} {k : κ → Key} {j : κ} {b' : β} {kvs : List (Key × V)} {l : List (κ × β)} (p : Paired (KV k F) kvs l) (hj : ∀ v b, (j, b) ∈ l → F v b → F' v b') (ho : ∀ v b i, (i, b) ∈ l → i ≠ j → F v b → F' v b) {u : β} (hu : lk l j = some u) : Paired (KV k F') kvs (pt l j b') := by
  rw [pt_old b' hu]
  clear hu
  induction p with
  | nil => exact .nil
  | cons r t ih =>
    rename_i x y xs ys
    refine .cons ?_ (ih (fun v b h => hj v b (List.mem_cons_of_mem _ h)) fun v b i h => ho v b i (List.mem_cons_of_mem _ h))
    show KV k F' x (if y.1 = j then (y.1, b') else y)
    obtain ⟨a, b⟩ := y
    by_cases z : a = j
    · subst z
      rw [if_pos rfl]
      exact ⟨r.1, hj _ _ List.mem_cons_self r.2⟩
    · rw [if_neg z]
      exact ⟨r.1, ho _ _ _ List.mem_cons_self z r.2⟩
theorem ThE.upd {K : PySem.W.Frag} {H : Hp} {v : V} {el a : Addr} {t : Th} {kvs : List (Key × V)} {o : HO} (h : ThE K H v el t) (e : H a = some (.dK kvs)) (n : el ≠ a) : ThE K (upd H a o) v el t := by
  obtain ⟨p, dx, hl, e1, h1, h2, h3⟩ := h
  refine ⟨p, dx, hl, e1, ?_, ?_, ?_⟩
  · rw [upd_ne (ne_of h1 e (by intro z; cases z))]; exact h1
  · rw [upd_ne (ne_of h2 e (by intro z; cases z))]; exact h2
  · rw [upd_ne n]; exact h3
theorem own_nil {K : PySem.W.Frag} {G : Hp} {f : Addr} (e : G f = some (.dK [])) : OwnAt K G f [] := ⟨⟨[], e, .nil⟩, fun _ h => (nomatch h), fun _ h => (nomatch h), List.nodup_nil⟩
theorem own_put {K : PySem.W.Frag} {G : Hp} {f el : Addr} {kvs : List (Key × V)} {X : Xs} {n : Int} {t : Th} {v : V} (O : OwnAt K G f X) (e : G f = some (.dK kvs)) (th : ThE K G v el t) (nf : el ≠ f) (nx : ∀ x ∈ X, x.2.2 ≠ el) :
    OwnAt K (upd G f (.dK (putK kvs (Sum.inl n) v))) f (pt X n (t, el)) := by
  obtain ⟨⟨kvs', e', p⟩, ns, ne, kd⟩ := O
  rw [e] at e'
  cases e'
  refine ⟨⟨_, upd_same, kv_put (k := Sum.inl) (fun _ _ => inl_inj) (kv_mono (F := fun v (y : Th × Addr) => ThE K G v y.2 y.1 ∧ y.2 ≠ f) (fun v y z => z.1.upd e z.2) (kv_and p ns)) (th.upd e nf)⟩, fun x hx => ?_, fun x hx y hy q => ?_, nd_pt _ kd⟩
  · rcases mem_pt hx with rfl | ⟨hx, _⟩
    · exact nf
    · exact ns x hx
  · rcases mem_pt hx with rfl | ⟨hx, _⟩
    · rcases mem_pt hy with rfl | ⟨hy, _⟩
      · rfl
      · exact absurd q.symm (nx y hy)
    · rcases mem_pt hy with rfl | ⟨hy, _⟩
      · exact absurd q (nx x hx)
      · exact ne x hx y hy q
/-- the entries of a thing are set -/
theorem own_ents {K : PySem.W.Frag} {G : Hp} {f el : Addr} {X : Xs} {n : Int} {t : Th} {es : List (Str × Int)} (O : OwnAt K G f X) (h : lk X n = some (t, el)) : OwnAt K (upd G el (.dK (ek es))) f (pt X n ({ t with ents := es }, el)) := by
  obtain ⟨⟨kvs, e, p⟩, ns, ne, kd⟩ := O
  have hm := lk_mem h
  have uq : ∀ b, (n, b) ∈ X → b = (t, el) := fun b hb => by
    have := lk_of_mem kd hb
    rw [h] at this
    exact (Option.some.inj this).symm
  have hel : G el = some (.dK (ek t.ents)) := by
    obtain ⟨u, _, q⟩ := (kv_get (k := Sum.inl) (F := fun v y => ThE K G v y.2 y.1) (fun _ _ => inl_inj) (j := n) p).1 _ h
    obtain ⟨_, _, _, _, _, _, h9⟩ := q
    exact h9
  refine ⟨⟨kvs, by rw [upd_ne (Ne.symm (ns _ hm))]; exact e, kv_upd p (fun v b hb z => ?_) (fun v b i hb hi z => ?_) h⟩, fun x hx => ?_, fun x hx y hy q => ?_, nd_pt _ kd⟩
  · cases uq b hb
    obtain ⟨p, dx, hl, e1, h1, h2, h3⟩ := z
    refine ⟨p, dx, hl, e1, ?_, ?_, upd_same⟩
    · rw [upd_ne (ne_of h1 h3 (by intro z; cases z))]; exact h1
    · rw [upd_ne (ne_of h2 h3 (by intro z; cases z))]; exact h2
  · exact z.upd hel fun q => hi (ne _ hb _ hm q)
  · rcases mem_pt hx with rfl | ⟨hx, _⟩
    · exact ns (n, t, el) hm
    · exact ns x hx
  · rcases mem_pt hx with rfl | ⟨hx, _⟩
    · rcases mem_pt hy with rfl | ⟨hy, _⟩
      · rfl
      · exact (ne y hy (n, t, el) hm q.symm).symm
    · rcases mem_pt hy with rfl | ⟨hy, _⟩
      · exact ne x hx (n, t, el) hm q
      · exact ne x hx y hy q
theorem paired_mem {α β : Type} {F : α → β → Prop} : ∀ {l1 : List α} {l2 : List β} {b : β}, Paired F l1 l2 → b ∈ l2 → ∃ a, a ∈ l1 ∧ F a b
  | _, _, _, .nil, h => by cases h
  | _, _, b, .cons r t, h => by
    rcases List.mem_cons.mp h with e | e
    · subst e
      exact ⟨_, List.mem_cons_self, r⟩
    · obtain ⟨a, h1, h2⟩ := paired_mem t e
      exact ⟨a, List.mem_cons_of_mem _ h1, h2⟩
theorem lk_take {κ β : Type} [DecidableEq κ] {S : List (κ × β)} {i : Nat} {n : κ} {t : β} (nd : (S.map (·.1)).Nodup) (h : S[i]? = some (n, t)) : lk (S.take i) n = none := by
  refine lk_none.mpr fun hm => ?_
  obtain ⟨y, hy, e⟩ := List.mem_map.mp hm
  obtain ⟨j, hj⟩ := List.mem_iff_getElem?.mp hy
  rw [List.getElem?_take] at hj
  split at hj
  · rename_i hlt
    have h1 : (S.map (·.1))[j]? = some n := by
      rw [List.getElem?_map, hj]
      exact congrArg some e
    have h2 : (S.map (·.1))[i]? = some n := by
      rw [List.getElem?_map, h]
      rfl
    have := (List.getElem?_inj (by rw [List.length_map]; exact (List.getElem?_eq_some_iff.mp hj).1) nd).mp (h1.trans h2.symm)
    omega
  · cases hj
/-! ### fresh -/
def sp_fresh (K : PySem.W.Frag) : Sp := fun vs H Q E => vs = [] ∧ ∀ s X H', er X = [(0, ⟨true, [], []⟩)] → OwnAt K (nw H H') s X → Same H H' → Q (.ref s) H'
def t_fresh (K : PySem.W.Frag) (W : WX) : TS := uRet (tDisp [(uC (.int 0), uMakeW (He.ga K "Thing") (sp_Thing___init__ K) W (uCons (uC (.str "dir")) (uCons (uLst uNil) (uCons tDNewK uNil))))])
theorem pure_fresh {K : PySem.W.Frag} {vs : List V} {H : Hp} {Q : VK} {E : XK} (h : sp_fresh K vs H Q E) : t_fresh K (WE1 E) (fin Q) (start [] vs) H := by
  obtain ⟨rfl, q⟩ := h
  show t_fresh K _ (fin Q) [] H
  unfold t_fresh
  walk_at "go"
  refine fun f nf => ?_
  have hf : (upd H f (.dK [])) f = some (.dK []) := upd_same
  have s1 : Same H (upd H f (.dK [])) := Same.new nf
  generalize upd H f (.dK []) = H1 at hf s1
  simp only [tPairs]
  refine x_lst fun l H2 nl hl s2 => ?_
  walk_at "go"
  refine w_dnew fun e H3 ne he s3 => ?_
  walk_at "go"
  refine x_mkThing (xs := []) (SqL.of (s3 _ _ hl)) (.inl he) fun p dx a b H4 np na nb s4 hp ha hb => ?_
  have s14 := (s2.trans s3).trans s4
  have hf4 := s14 _ _ hf
  refine ⟨hf4, [(Sum.inl 0, .ref p)], rfl, Nat.le_of_ble_eq_true rfl, ?_⟩
  have nbf : b ≠ f := fun z => by
    rw [z] at nb
    exact absurd nb (noneSome ((s2.trans s3) _ _ hf))
  have S0 : Same H H3 := (s1.trans s2).trans s3
  refine q f [(0, ⟨true, [], []⟩, b)] _ rfl ?_ (updNew nf (s1.trans s14))
  rw [nw_upd nf]
  exact own_put (kvs := []) (n := 0) (t := ⟨true, [], []⟩) (own_nil (nw_new nf hf4)) (nw_new nf hf4) ⟨p, dx, a, rfl, nw_new (S0.free np) hp, nw_new (S0.free na) ha, nw_new (S0.free nb) hb⟩ nbf (fun x hx => (nomatch hx))
/-! ### copied -/
def sp_copied (K : PySem.W.Frag) : Sp := fun vs H Q E => ∃ (a : Addr) (S : St), vs = [.ref a] ∧ StateAt K H a S ∧ (S.map (·.1)).Nodup ∧ S.length ≤ 1000 ∧ ∀ s X H', er X = S → OwnAt K (nw H H') s X → Same H H' → Q (.ref s) H'
def t_copied (K : PySem.W.Frag) (W : WX) : TS := uSeq (uAsg tDNewK (vName 1))
    (uSeq (tLock (uFor (uItems (tVar 0)) (gTup K 2 (gCons (vName 2) (gCons (vName 3) gNil))) (uDPut (tVar 1) (tVar 2) (uMakeW (He.ga K "Thing") (sp_Thing___init__ K) W (uCons (uFld K (tVar 3) "kind") (uCons (uFld K (tVar 3) "held") (uCons (uFld K (tVar 3) "entries") uNil)))))))
    (uRet (tVar 1)))
theorem nw_lock {H H' : Hp} {a : Addr} {o : HO} (h : (H a).isSome = true) : nw H (upd H' a o) = nw H H' := by
  funext x
  unfold nw
  by_cases e : x = a
  · subst e
    rw [if_pos h, if_pos h]
  · rw [upd_ne e]
theorem pure_copied {K : PySem.W.Frag} (T : PxThing K) {vs : List V} {H : Hp} {Q : VK} {E : XK} (h : sp_copied K vs H Q E) : t_copied K (WE1 E) (fin Q) (start ["state", "found", "number", "thing"] vs) H := by
  obtain ⟨a, S, rfl, ⟨kvs, hk, pk⟩, nd, hl, q⟩ := h
  have lk_ : kvs.length = S.length := Paired.len pk
  show t_copied K _ (fin Q) [some (.ref a), none, none, none] H
  unfold t_copied
  walk_at "go"
  refine w_dnew fun f H1 nf hf s1 => ?_
  walk_at "go"
  have hk1 := s1 _ _ hk
  refine x_lock hk1 fun od H2 e2 => ?_
  have naf : f ≠ a := fun z => by
    rw [z, hk] at nf
    cases nf
  have ha2 : H2 a = some (.frz od (.dK kvs)) := by rw [e2]; exact upd_same
  have hf2 : H2 f = some (.dK []) := by rw [e2, upd_ne naf]; exact hf
  walk_at "go"
  refine x_iitm ha2 ?_
  have HN : ∀ {H'}, Same H2 H' → True := fun _ => trivial
  refine x_forW walk_items (fun i σ H' => (∃ o1 o2, σ = [some (.ref a), some (.ref f), o1, o2]) ∧ Same (upd H a (.frz od (.dK kvs))) H' ∧ ∃ X, OwnAt K (nw H H') f X ∧ er X = S.take i) ⟨⟨_, _, rfl⟩, ?_, [], own_nil (nw_new nf hf2), rfl⟩ (fun i σ H' _ h => h.2.1 _ _ upd_same) (fun i x σ H' H'' hi h hy => ?_) (fun σ H' h => ?_)
  · rw [e2]
    intro x o ho
    by_cases z : x = a
    · subst z
      rw [upd_same] at ho ⊢
      exact ho
    · rw [upd_ne z] at ho ⊢
      exact s1 _ _ ho
  · obtain ⟨⟨o1, o2, rfl⟩, s, X, O, eX⟩ := h
    obtain ⟨t, x1, y1, rfl, nt, rfl, ex, ey⟩ := hy
    have hiS : i < S.length := by omega
    obtain ⟨⟨k, v⟩, hkv, ek_, th⟩ := paired_at (i := i) pk (List.getElem?_eq_getElem hiS)
    have ex : (kvs[i]?.map fun kv => kV kv.1) = some x1 := ex
    have ey : kvs[i]?.map Prod.snd = some y1 := ey
    rw [hkv] at ex ey
    cases ex
    cases ey
    simp only at ek_ th
    generalize hSi : S[i] = y at ek_ th
    obtain ⟨n, t0⟩ := y
    obtain ⟨el, p, dx, hlh, rfl, h1, h2, h3⟩ := th
    have nela : el ≠ a := fun z => by
      rw [z, hk] at h3
      have e9 : kvs = ek t0.ents := by
        have := Option.some.inj h3
        injection this
      rw [e9] at hkv
      unfold ek at hkv
      rw [List.getElem?_map] at hkv
      obtain ⟨w, _, hw⟩ := Option.map_eq_some_iff.mp hkv
      have := congrArg Prod.fst hw
      rw [show ((k, V.ref p).1 : Key) = k from rfl, ek_] at this
      cases this
    have g1 : upd H' t (.tup [kV k, .ref p]) p = some (oThing K dx (.str (kindS t0.dir)) (.ref hlh) (.ref el)) := Same.new nt _ _ (s _ _ (by rw [upd_ne (ne_of h1 hk (by intro z; cases z))]; exact h1))
    have g2 : upd H' t (.tup [kV k, .ref p]) hlh = some (.lst (t0.held.map V.int)) := Same.new nt _ _ (s _ _ (by rw [upd_ne (ne_of h2 hk (by intro z; cases z))]; exact h2))
    have g3 : upd H' t (.tup [kV k, .ref p]) el = some (.dK (ek t0.ents)) := Same.new nt _ _ (s _ _ (by rw [upd_ne nela]; exact h3))
    have sT : Same H' (upd H' t (.tup [kV k, .ref p])) := Same.new nt
    have gT : upd H' t (.tup [kV k, .ref p]) t = some (.tup [kV k, .ref p]) := upd_same
    generalize upd H' t (.tup [kV k, .ref p]) = H3 at g1 g2 g3 sT gT
    refine x_gtupN gT ?_
    walk_at "go"
    refine x_mkThing (SqL.of g2) (.inl g3) fun p2 dx2 a2 b2 H4 np2 na2 nb2 s4 hp2 ha2' hb2 => ?_
    walk_at "go"
    obtain ⟨⟨kvs2, e2', pk2⟩, _, _, _⟩ := id O
    have fr : ∀ {z : Addr}, H3 z = none → H z = none := fun hz => by
      have z1 := s.free (sT.free hz)
      exact freeUpd z1
    have O4 : OwnAt K (nw H H4) f X := O.same (nw_sameR (Same.refl H) (sT.trans s4))
    have ef4 : nw H H4 f = some (.dK kvs2) := nw_sameR (Same.refl H) (sT.trans s4) _ _ e2'
    have ef : H4 f = some (.dK kvs2) := (nw_none ef4).2
    have lX : kvs2.length = X.length := Paired.len pk2
    have lX2 : X.length ≤ S.length := by
      have := congrArg List.length eX
      unfold er at this
      rw [List.length_map, List.length_take] at this
      omega
    refine x_dput ef (by omega) rfl ?_
    refine ⟨⟨_, _, rfl⟩, ?_, pt X n (t0, b2), ?_, ?_⟩
    · have s5 := (s.trans sT).trans s4
      intro x o ho
      have nx : x ≠ f := fun z => by
        rw [z, upd_ne naf, nf] at ho
        cases ho
      rw [upd_ne nx]
      exact s5 _ _ ho
    · rw [nw_upd nf, ek_]
      refine own_put O4 ef4 ⟨p2, dx2, a2, rfl, nw_new (fr np2) hp2, nw_new (fr na2) ha2', nw_new (fr nb2) hb2⟩ ?_ ?_
      · intro z
        rw [z] at nb2
        have := sT _ _ (nw_none e2').2
        rw [nb2] at this
        cases this
      · intro x hx z
        have hb3 : nw H H' b2 ≠ none := by
          obtain ⟨_, _, hq⟩ := paired_mem pk2 hx
          obtain ⟨_, _, _, _, _, _, h9⟩ := hq.2
          rw [z] at h9
          rw [h9]
          exact fun w => by cases w
        have : H' b2 = none := sT.free nb2
        refine hb3 ?_
        unfold nw
        rw [this]
        split <;> rfl
    · rw [er_pt, eX, pt_new, take_snoc (by rw [List.getElem?_eq_getElem hiS, hSi])]
      exact lk_take nd (by rw [List.getElem?_eq_getElem hiS, hSi])
  · obtain ⟨⟨o1, o2, rfl⟩, s, X, O, eX⟩ := h
    refine ⟨s _ _ upd_same, ?_⟩
    walk_at "go"
    refine q f X _ (by rw [eX, lk_, List.take_length]) ?_ (Same.unlock hk s)
    rw [nw_lock (by rw [hk]; rfl)]
    exact O
end SP

set_option Elab.async false
set_option linter.all false
set_option maxRecDepth 100000
set_option maxHeartbeats 4000000
/-! States looked at. -/
namespace SP
open PySem PySem.Spec PyProof.Rows L2
local macro_rules | `(tactic| walk_at "hp") => `(tactic| first
  | assumption
  | exact upd_same
  | (refine' sameAt ?sA ?hA; (case sA => assumption); (case hA => walk_at "hp"))
  | (refine' Eq.trans (upd_ne ?nA) ?hA; (case nA => walk_at "ne"); (case hA => walk_at "hp")))
local macro_rules | `(tactic| walk_at "ne") => `(tactic| first
  | assumption
  | (refine' Ne.symm ?hA; assumption)
  | (refine' ne_of_none (H := _) ?hA (by assumption); walk_at "hp")
  | (refine' Ne.symm (ne_of_none (H := _) ?hA (by assumption)); walk_at "hp")
  | (refine' ne_of ?hA ?hB ?hC; (case hA => assumption); (case hB => walk_at "hp"); (case hC => (intro z; cases z))))
local macro_rules | `(tactic| walk_at "sm") => `(tactic| first
  | exact Same.refl _
  | assumption
  | (refine' sameTr ?sA ?sB; (case sA => assumption); (case sB => walk_at "sm")))
local macro_rules | `(tactic| walk_at "dm") => `(tactic| first
  | exact dmRefl
  | assumption
  | (refine' dmUpd ?dA; (case dA => walk_at "dm"))
  | (refine' dmSame ?sA ?dA; (case sA => assumption); (case dA => walk_at "dm")))
local macro_rules | `(tactic| walk_at "fr") => `(tactic| first
  | assumption
  | (refine' dmAt ?dA ?hA; (case hA => assumption); (case dA => walk_at "dm")))
local macro_rules | `(tactic| walk_at "ab") => `(tactic| (exfalso; refine absurd ?hA (noneSome ?hB); (case hB => walk_at "hp"); (case hA => assumption)))
local macro_rules | `(tactic| walk_at "kp") => `(tactic| first
  | exact Keep.refl
  | assumption
  | (refine' Keep.trans ?kA (keepUpd ?kB ?kC ?kD); (case kB => simp); (case kC => walk_at "hp"); (case kD => (intro xs z; cases z)); (case kA => walk_at "kp"))
  | (refine' keepTr ?kB ?kA; (case kB => assumption); (case kA => walk_at "kp"))
  | (refine' keepSm ?kB ?kA; (case kB => assumption); (case kA => walk_at "kp")))
local macro_rules | `(tactic| walk_at "get") => `(tactic| first
  | (refine' x_get_Files_state ?T ?h ?_) | (refine' x_get_Thing_kind ?T ?h ?_) | (refine' x_get_Thing_entries ?T ?h ?_) | (refine' x_get_Thing_held ?T ?h ?_)
  | (refine' x_get_Files_disk ?T ?h ?_) | (refine' x_get_Files_kept ?T ?h ?_) | (refine' x_get_Files_used ?T ?h ?_)
  | (refine' x_get_Disk_blocks ?T ?h ?_) | (refine' x_get_Disk_log ?T ?h ?_)
  | (refine' x_get_Reader_row ?T ?h ?_) | (refine' x_get_Reader_at ?T ?h ?_) | (refine' x_get_Reader_good ?T ?h ?_)
  | (refine' x_get_Files_slot ?T ?h ?_) | (refine' x_get_Files_turn ?T ?h ?_) | (refine' x_get_Files_is_new ?T ?h ?_))
local macro_rules | `(tactic| walk_at "set") => `(tactic| first
  | ((with_reducible refine' x_set_Disk_blocks ?T ?h ?_); (case T => assumption); (case h => walk_at "hp"))
  | ((with_reducible refine' i_set_Disk_blocks ?T ?h ?_); (case T => assumption); (case h => walk_at "hp"))
  | ((with_reducible refine' x_set_Disk_log ?T ?h ?_); (case T => assumption); (case h => walk_at "hp"))
  | ((with_reducible refine' i_set_Disk_log ?T ?h ?_); (case T => assumption); (case h => walk_at "hp"))
  | ((with_reducible refine' x_set_Thing_kind ?T ?h ?_); (case T => assumption); (case h => walk_at "hp"))
  | ((with_reducible refine' i_set_Thing_kind ?T ?h ?_); (case T => assumption); (case h => walk_at "hp"))
  | ((with_reducible refine' x_set_Thing_held ?T ?h ?_); (case T => assumption); (case h => walk_at "hp"))
  | ((with_reducible refine' i_set_Thing_held ?T ?h ?_); (case T => assumption); (case h => walk_at "hp"))
  | ((with_reducible refine' x_set_Thing_entries ?T ?h ?_); (case T => assumption); (case h => walk_at "hp"))
  | ((with_reducible refine' i_set_Thing_entries ?T ?h ?_); (case T => assumption); (case h => walk_at "hp"))
  | ((with_reducible refine' x_set_Reader_row ?T ?h ?_); (case T => assumption); (case h => walk_at "hp"))
  | ((with_reducible refine' i_set_Reader_row ?T ?h ?_); (case T => assumption); (case h => walk_at "hp"))
  | ((with_reducible refine' x_set_Reader_at ?T ?h ?_); (case T => assumption); (case h => walk_at "hp"))
  | ((with_reducible refine' i_set_Reader_at ?T ?h ?_); (case T => assumption); (case h => walk_at "hp"))
  | ((with_reducible refine' x_set_Reader_good ?T ?h ?_); (case T => assumption); (case h => walk_at "hp"))
  | ((with_reducible refine' i_set_Reader_good ?T ?h ?_); (case T => assumption); (case h => walk_at "hp"))
  | ((with_reducible refine' x_set_Files_disk ?T ?h ?_); (case T => assumption); (case h => walk_at "hp"))
  | ((with_reducible refine' i_set_Files_disk ?T ?h ?_); (case T => assumption); (case h => walk_at "hp"))
  | ((with_reducible refine' x_set_Files_state ?T ?h ?_); (case T => assumption); (case h => walk_at "hp"))
  | ((with_reducible refine' i_set_Files_state ?T ?h ?_); (case T => assumption); (case h => walk_at "hp"))
  | ((with_reducible refine' x_set_Files_kept ?T ?h ?_); (case T => assumption); (case h => walk_at "hp"))
  | ((with_reducible refine' i_set_Files_kept ?T ?h ?_); (case T => assumption); (case h => walk_at "hp"))
  | ((with_reducible refine' x_set_Files_slot ?T ?h ?_); (case T => assumption); (case h => walk_at "hp"))
  | ((with_reducible refine' i_set_Files_slot ?T ?h ?_); (case T => assumption); (case h => walk_at "hp"))
  | ((with_reducible refine' x_set_Files_turn ?T ?h ?_); (case T => assumption); (case h => walk_at "hp"))
  | ((with_reducible refine' i_set_Files_turn ?T ?h ?_); (case T => assumption); (case h => walk_at "hp"))
  | ((with_reducible refine' x_set_Files_used ?T ?h ?_); (case T => assumption); (case h => walk_at "hp"))
  | ((with_reducible refine' i_set_Files_used ?T ?h ?_); (case T => assumption); (case h => walk_at "hp"))
  | ((with_reducible refine' x_set_Files_is_new ?T ?h ?_); (case T => assumption); (case h => walk_at "hp"))
  | ((with_reducible refine' i_set_Files_is_new ?T ?h ?_); (case T => assumption); (case h => walk_at "hp")))
local macro_rules | `(tactic| walk_at "go1") => `(tactic| first
  | ((with_reducible refine w_var (v := ?vv) ?e ?_); (case e => rfl))
  | ((with_reducible walk_at "get"); (case T => assumption); (case h => walk_at "hp"))
  | (with_reducible refine x_bl ?_)
  | (with_reducible refine x_isN ?_) | (with_reducible refine x_notN ?_) | (with_reducible refine x_eqI ?_) | (with_reducible refine x_neI ?_) | (with_reducible refine x_eqS ?_) | (with_reducible refine x_neS ?_)
  | (with_reducible refine x_addI ?_) | (with_reducible refine x_subI ?_) | (with_reducible refine x_ltI ?_) | (with_reducible refine x_leI ?_) | (with_reducible refine x_gtI ?_) | (with_reducible refine x_geI ?_)
  | (with_reducible refine x_bv ?_) | (with_reducible refine x_part ?_) | (with_reducible refine x_neg ?_) | (with_reducible refine x_inS ?_)
  | (walk_at "set")
  | ((with_reducible refine' x_bmL ?h ?_); (case h => walk_at "hp")) | ((with_reducible refine' x_bmL0 ?h ?_); (case h => walk_at "hp")))
local macro_rules | `(tactic| walk_at "go") => `(tactic| ((try with_reducible (conv => whnf)); repeat ((walk_at "go1"); (try with_reducible (conv => whnf)))))
/-- what is answered: a value, or an error's class; nothing that stood is changed -/
def Out (K : PySem.W.Frag) (H : Hp) (Q : VK) (E : XK) : Except Str V → Prop
  | .ok v => ∀ H', Same H H' → Q v H'
  | .error x => ∀ H', Same H H' → Exn K E x H'
theorem Out.ok {K : PySem.W.Frag} {H H' : Hp} {Q : VK} {E : XK} {r : Except Str V} {v : V} (h : Out K H Q E r) (e : r = .ok v) (s : Same H H') : Q v H' := by
  subst e
  exact h H' s
theorem Out.err {K : PySem.W.Frag} {H H' : Hp} {Q : VK} {E : XK} {r : Except Str V} {x : Str} (h : Out K H Q E r) (e : r = .error x) (s : Same H H') : Exn K E x H' := by
  subst e
  exact h H' s
theorem state_get {K : PySem.W.Frag} {H : Hp} {a : Addr} {S : St} {n : Int} {t : Th} (h : StateAt K H a S) (e : lk S n = some t) : ∃ kvs v, H a = some (.dK kvs) ∧ valV kvs (Sum.inl n) = some v ∧ ThAt K H v t := by
  obtain ⟨kvs, ha, p⟩ := h
  obtain ⟨v, e1, e2⟩ := (kv_get (k := Sum.inl) (F := ThAt K H) (fun _ _ => inl_inj) (j := n) p).1 t e
  exact ⟨kvs, v, ha, e1, e2⟩
theorem state_in {K : PySem.W.Frag} {H : Hp} {a : Addr} {S : St} {n : Int} (h : StateAt K H a S) : ∃ kvs, H a = some (.dK kvs) ∧ (valV kvs (Sum.inl n)).isSome = (lk S n).isSome := by
  obtain ⟨kvs, ha, p⟩ := h
  have g := kv_get (k := Sum.inl) (F := ThAt K H) (fun _ _ => inl_inj) (j := n) p
  refine ⟨kvs, ha, ?_⟩
  cases e : lk S n with
  | none =>
    rw [g.2 e]
    rfl
  | some t =>
    obtain ⟨v, e1, _⟩ := g.1 t e
    rw [e1]
    rfl
/-! ### least_free -/
def sp_least_free (K : PySem.W.Frag) : Sp := fun vs H Q E => ∃ (a : Addr) (S : St) (n : Nat), vs = [.ref a] ∧ StateAt K H a S ∧ lk S (n : Int) = none ∧ (∀ m : Nat, m < n → (lk S (m : Int)).isSome = true) ∧ Out K H Q E (.ok (.int n))
def t_least_free (K : PySem.W.Frag) (W : WX) : TS := uSeq (uAsg (uC (.int 0)) (vName 1))
    (uSeq (tWhile (uTest (uDIn (tVar 1) (tVar 0))) (uAsg (uOp rAddI (tVar 1) (uC (.int 1))) (vName 1)))
    (uRet (tVar 1)))
theorem pure_least_free {K : PySem.W.Frag} {vs : List V} {H : Hp} {Q : VK} {E : XK} (h : sp_least_free K vs H Q E) : t_least_free K (WE1 E) (fin Q) (start ["state", "number"] vs) H := by
  obtain ⟨a, S, n, rfl, hS, h0, h1, q⟩ := h
  show t_least_free K _ (fin Q) [some (.ref a), none] H
  unfold t_least_free
  walk_at "go"
  refine ⟨fun m σ H' => ∃ j, j ≤ n ∧ m = n - j ∧ σ = [some (.ref a), some (.int (j : Int))] ∧ H' = H, ⟨n, 0, Nat.zero_le _, rfl, rfl, rfl⟩, fun m σ H' h => ?_⟩
  obtain ⟨j, hj, rfl, rfl, rfl⟩ := h
  obtain ⟨kvs, ha, e⟩ := state_in (n := (j : Int)) hS
  walk_at "go"
  refine x_din (.inl ha) (k := Sum.inl (j : Int)) rfl e ?_
  walk_at "go"
  by_cases hlt : j < n
  · refine x_ifT (h1 j hlt) ?_
    refine ⟨fun σ H'' => σ = [some (.ref a), some (.int ((j + 1 : Nat) : Int))] ∧ H'' = H', fun σ' H'' h => ⟨n - (j + 1), by omega, j + 1, hlt, rfl, h.1, h.2⟩, ?_⟩
    walk_at "go"
    exact ⟨rfl, rfl⟩
  · have : j = n := by omega
    subst this
    refine x_ifF (by rw [h0]; rfl) ?_
    walk_at "go"
    exact q H' (Same.refl _)
/-! ### entry_of, walked, place_of -/
def entryOf (S : St) (n : Int) (z : Str) : Except Str Int := match lk S n with
  | none => .error ""
  | some t => if t.dir = true then (match lk t.ents z with
    | none => .error "NoThing"
    | some i => .ok i) else .error "NoDirectory"
def vI : Except Str Int → Except Str V
  | .ok i => .ok (.int i)
  | .error x => .error x
def sp_entry_of (K : PySem.W.Frag) : Sp := fun vs H Q E => ∃ (a : Addr) (S : St) (n : Int) (z : Str), vs = [.ref a, .int n, .str z] ∧ StateAt K H a S ∧ (lk S n).isSome = true ∧ Out K H Q E (vI (entryOf S n z))
def t_entry_of (K : PySem.W.Frag) (W : WX) : TS := uSeq (uIfS (uTest (uOp rNe (uFld K (uDGet (tVar 0) (tVar 1)) "kind") (uC (.str "dir")))) (uRaiseW W (He.ga K "NoDirectory")) uNext)
    (uSeq (uIfS (uTest (uDNotIn (tVar 2) (uFld K (uDGet (tVar 0) (tVar 1)) "entries"))) (uRaiseW W (He.ga K "NoThing")) uNext)
    (uRet (uDGet (uFld K (uDGet (tVar 0) (tVar 1)) "entries") (tVar 2))))
theorem kind_dir (b : Bool) : decide (kindS b = "dir") = b := by cases b <;> rfl
theorem pure_entry_of {K : PySem.W.Frag} (T : PxThing K) {vs : List V} {H : Hp} {Q : VK} {E : XK} (h : sp_entry_of K vs H Q E) : t_entry_of K (WE1 E) (fin Q) (start ["state", "number", "name"] vs) H := by
  obtain ⟨a, S, n, z, rfl, hS, hn, q⟩ := h
  obtain ⟨t, et⟩ := Option.isSome_iff_exists.mp hn
  obtain ⟨kvs, v, ha, hv, el, p, dx, hl, rfl, h1, h2, h3⟩ := state_get hS et
  have qe : entryOf S n z = if t.dir = true then (match lk t.ents z with
    | none => .error "NoThing"
    | some i => .ok i) else .error "NoDirectory" := by unfold entryOf; rw [et]
  show t_entry_of K _ (fin Q) [some (.ref a), some (.int n), some (.str z)] H
  unfold t_entry_of
  walk_at "go"
  refine x_dget (.inl ha) (k := Sum.inl n) rfl hv ?_
  walk_at "go"
  rw [kind_dir]
  cases hd : t.dir with
  | false =>
    refine x_ifT rfl ?_
    walk_at "go"
    exact q.err (by rw [qe, if_neg (by rw [hd]; decide)]; rfl) (Same.refl H)
  | true =>
    rw [if_pos hd] at qe
    refine x_ifF rfl ?_
    walk_at "go"
    refine x_dget (.inl ha) (k := Sum.inl n) rfl hv ?_
    walk_at "go"
    refine x_dni (.inl h3) (k := Sum.inr z) rfl (b := (lk t.ents z).isSome) (by rw [ek_get, Option.isSome_map]) ?_
    walk_at "go"
    cases hz : lk t.ents z with
    | none =>
      refine x_ifT rfl ?_
      walk_at "go"
      exact q.err (by rw [qe, hz]; rfl) (Same.refl H)
    | some i =>
      refine x_ifF rfl ?_
      walk_at "go"
      refine x_dget (.inl ha) (k := Sum.inl n) rfl hv ?_
      walk_at "go"
      refine x_dget (.inl h3) (k := Sum.inr z) rfl (by rw [ek_get, hz]; rfl) ?_
      exact q.ok (by rw [qe, hz]; rfl) (Same.refl H)
/-- every entry leads to a thing, the root is there -/
structure Clo (S : St) : Prop where
  r : (lk S 0).isSome = true
  c : ∀ n t, lk S n = some t → ∀ z i, lk t.ents z = some i → (lk S i).isSome = true
theorem Clo.entry {S : St} (c : Clo S) {n i : Int} {z : Str} (h : entryOf S n z = .ok i) : (lk S i).isSome = true := by
  unfold entryOf at h
  split at h
  · cases h
  · rename_i t et
    split at h
    · split at h
      · cases h
      · rename_i j ej
        cases h
        exact c.c _ _ et _ _ ej
    · cases h
def walkedF (S : St) : Int → List Str → Except Str Int
  | n, [] => .ok n
  | n, z :: r => match entryOf S n z with
    | .ok i => walkedF S i r
    | .error x => .error x
theorem Clo.walk {S : St} (c : Clo S) : ∀ {ns : List Str} {n i : Int}, (lk S n).isSome = true → walkedF S n ns = .ok i → (lk S i).isSome = true
  | [], n, i, h, e => by cases e; exact h
  | z :: r, n, i, h, e => by
    unfold walkedF at e
    split at e
    · rename_i j ej
      exact c.walk (c.entry ej) e
    · cases e
theorem walked_snoc {S : St} {z : Str} : ∀ {ns : List Str} {n : Int}, walkedF S n (ns ++ [z]) = (match walkedF S n ns with
    | .ok i => entryOf S i z
    | .error x => .error x)
  | [], n => by
    show walkedF S n [z] = entryOf S n z
    unfold walkedF
    split
    · rename_i i e
      rw [e]
      rfl
    · rename_i x e
      rw [e]
  | y :: r, n => by
    show walkedF S n (y :: (r ++ [z])) = _
    unfold walkedF
    split
    · rename_i i e
      exact walked_snoc
    · rfl
theorem walked_err {S : St} {x : Str} {r : List Str} : ∀ {ns : List Str} {n : Int}, walkedF S n ns = .error x → walkedF S n (ns ++ r) = .error x
  | [], n, h => by cases h
  | y :: t, n, h => by
    show walkedF S n (y :: (t ++ r)) = _
    unfold walkedF at h ⊢
    split
    · rename_i i e
      rw [e] at h
      exact walked_err h
    · rename_i w e
      rw [e] at h
      exact h
def sp_walked (K : PySem.W.Frag) : Sp := fun vs H Q E => ∃ (a b : Addr) (S : St) (ns : List Str), vs = [.ref a, .ref b] ∧ StateAt K H a S ∧ Clo S ∧ H b = some (.lst (ns.map V.str)) ∧ Out K H Q E (vI (walkedF S 0 ns))
def t_walked (K : PySem.W.Frag) (W : WX) : TS := uSeq (uAsg (uC (.int 0)) (vName 2))
    (uSeq (uFor (jList K (tVar 1)) (vName 3) (uAsg (uCallW (sp_entry_of K) W (uCons (tVar 0) (uCons (tVar 2) (uCons (tVar 3) uNil)))) (vName 2)))
    (uRet (tVar 2)))
theorem pure_walked {K : PySem.W.Frag} {vs : List V} {H : Hp} {Q : VK} {E : XK} (h : sp_walked K vs H Q E) : t_walked K (WE1 E) (fin Q) (start ["state", "names", "number", "name"] vs) H := by
  obtain ⟨a, b, S, ns, rfl, hS, c, hb, q⟩ := h
  show t_walked K _ (fin Q) [some (.ref a), some (.ref b), none, none] H
  unfold t_walked
  walk_at "go"
  refine x_ilist (SqL.of hb) ?_
  refine x_forL (xs := ns.map V.str) (fun i σ H' => (∃ n o, σ = [some (.ref a), some (.ref b), some (.int n), o] ∧ walkedF S 0 (ns.take i) = .ok n) ∧ Same H H') ⟨⟨0, none, rfl, rfl⟩, Same.refl _⟩ (fun i σ H' _ h => SqL.of (h.2 _ _ hb)) (fun i x σ H' hx h => ?_) (fun σ H' h => ?_)
  · obtain ⟨⟨n, o, rfl, hw⟩, s⟩ := h
    rw [List.getElem?_map] at hx
    obtain ⟨z, hz, rfl⟩ := Option.map_eq_some_iff.mp hx
    have hn := c.walk c.r hw
    have hw2 : walkedF S 0 (ns.take (i + 1)) = entryOf S n z := by rw [take_snoc hz, walked_snoc, hw]
    walk_at "go"
    refine ⟨a, S, n, z, rfl, hS.same s, hn, ?_⟩
    cases he : entryOf S n z with
    | ok j =>
      intro H2 s2
      walk_at "go"
      exact ⟨⟨j, _, rfl, by rw [hw2, he]⟩, s.trans s2⟩
    | error x =>
      intro H2 s2
      refine q.err ?_ (s.trans s2)
      rw [he] at hw2
      have := walked_err (r := ns.drop (i + 1)) hw2
      rw [List.take_append_drop] at this
      rw [this]
      rfl
  · obtain ⟨⟨n, o, rfl, hw⟩, s⟩ := h
    walk_at "go"
    rw [List.length_map, List.take_length] at hw
    exact q.ok (by rw [hw]; rfl) s
def placeOf (S : St) (ns : List Str) : Except Str Int := match walkedF S 0 ns.dropLast with
  | .ok n => (match lk S n with
    | some t => if t.dir = true then .ok n else .error "NoDirectory"
    | none => .error "")
  | .error x => .error x
theorem cutV_last (ns : List Str) : cutV (ns.map V.str) none (some (-1)) = ns.dropLast.map V.str := by
  unfold cutV HT.sIx
  simp only [List.drop_zero, List.length_map, Nat.sub_zero, ← List.map_take, List.dropLast_eq_take]
  congr 2
  simp
  omega
def sp_place_of (K : PySem.W.Frag) : Sp := fun vs H Q E => ∃ (a b : Addr) (S : St) (ns : List Str), vs = [.ref a, .ref b] ∧ StateAt K H a S ∧ Clo S ∧ H b = some (.lst (ns.map V.str)) ∧ Out K H Q E (vI (placeOf S ns))
def t_place_of (K : PySem.W.Frag) (W : WX) : TS := uSeq (uAsg (uCallW (sp_walked K) W (uCons (tVar 0) (uCons (uSl (rSlL K) (tVar 1) uNoPart (uPart (uUn rNegI (uC (.int 1))))) uNil))) (vName 2))
    (uSeq (uIfS (uTest (uOp rNe (uFld K (uDGet (tVar 0) (tVar 2)) "kind") (uC (.str "dir")))) (uRaiseW W (He.ga K "NoDirectory")) uNext)
    (uRet (tVar 2)))
theorem pure_place_of {K : PySem.W.Frag} (T : PxThing K) {vs : List V} {H : Hp} {Q : VK} {E : XK} (h : sp_place_of K vs H Q E) : t_place_of K (WE1 E) (fin Q) (start ["state", "names", "number"] vs) H := by
  obtain ⟨a, b, S, ns, rfl, hS, c, hb, q⟩ := h
  show t_place_of K _ (fin Q) [some (.ref a), some (.ref b), none] H
  unfold t_place_of
  walk_at "go"
  refine x_slL (SqL.of hb) fun l H1 nl hl s1 => ?_
  rw [cutV_last] at hl
  walk_at "go"
  refine ⟨a, l, S, _, rfl, hS.same s1, c, hl, ?_⟩
  cases hw : walkedF S 0 ns.dropLast with
  | error x =>
    intro H2 s2
    exact q.err (by unfold placeOf; rw [hw]; rfl) (s1.trans s2)
  | ok n =>
    intro H2 s2
    obtain ⟨t, et⟩ := Option.isSome_iff_exists.mp (c.walk c.r hw)
    obtain ⟨kvs, v, ha, hv, el, p, dx, hl2, rfl, h1, h2, h3⟩ := state_get (hS.same (s1.trans s2)) et
    have qe : placeOf S ns = if t.dir = true then .ok n else .error "NoDirectory" := by unfold placeOf; rw [hw]; show (match lk S n with | some t => _ | none => _) = _; rw [et]
    walk_at "go"
    refine x_dget (.inl ha) (k := Sum.inl n) rfl hv ?_
    walk_at "go"
    rw [kind_dir]
    cases hd : t.dir with
    | false =>
      refine x_ifT rfl ?_
      walk_at "go"
      exact q.err (by rw [qe, if_neg (by rw [hd]; decide)]; rfl) (s1.trans s2)
    | true =>
      refine x_ifF rfl ?_
      walk_at "go"
      exact q.ok (by rw [qe, if_pos hd]; rfl) (s1.trans s2)
end SP

set_option Elab.async false
set_option linter.all false
set_option maxRecDepth 100000
set_option maxHeartbeats 4000000
/-! Bytes of states. -/
namespace SP
open PySem PySem.Spec PyProof.Rows L2
local macro_rules | `(tactic| walk_at "hp") => `(tactic| first
  | assumption
  | exact upd_same
  | (refine' sameAt ?sA ?hA; (case sA => assumption); (case hA => walk_at "hp"))
  | (refine' Eq.trans (upd_ne ?nA) ?hA; (case nA => walk_at "ne"); (case hA => walk_at "hp")))
local macro_rules | `(tactic| walk_at "ne") => `(tactic| first
  | assumption
  | (refine' Ne.symm ?hA; assumption)
  | (refine' ne_of_none (H := _) ?hA (by assumption); walk_at "hp")
  | (refine' Ne.symm (ne_of_none (H := _) ?hA (by assumption)); walk_at "hp")
  | (refine' ne_of ?hA ?hB ?hC; (case hA => assumption); (case hB => walk_at "hp"); (case hC => (intro z; cases z))))
local macro_rules | `(tactic| walk_at "sm") => `(tactic| first
  | exact Same.refl _
  | assumption
  | (refine' sameTr ?sA ?sB; (case sA => assumption); (case sB => walk_at "sm")))
local macro_rules | `(tactic| walk_at "dm") => `(tactic| first
  | exact dmRefl
  | assumption
  | (refine' dmUpd ?dA; (case dA => walk_at "dm"))
  | (refine' dmSame ?sA ?dA; (case sA => assumption); (case dA => walk_at "dm")))
local macro_rules | `(tactic| walk_at "fr") => `(tactic| first
  | assumption
  | (refine' dmAt ?dA ?hA; (case hA => assumption); (case dA => walk_at "dm")))
local macro_rules | `(tactic| walk_at "ab") => `(tactic| (exfalso; refine absurd ?hA (noneSome ?hB); (case hB => walk_at "hp"); (case hA => assumption)))
local macro_rules | `(tactic| walk_at "kp") => `(tactic| first
  | exact Keep.refl
  | assumption
  | (refine' Keep.trans ?kA (keepUpd ?kB ?kC ?kD); (case kB => simp); (case kC => walk_at "hp"); (case kD => (intro xs z; cases z)); (case kA => walk_at "kp"))
  | (refine' keepTr ?kB ?kA; (case kB => assumption); (case kA => walk_at "kp"))
  | (refine' keepSm ?kB ?kA; (case kB => assumption); (case kA => walk_at "kp")))
local macro_rules | `(tactic| walk_at "get") => `(tactic| first
  | (refine' x_get_Files_state ?T ?h ?_) | (refine' x_get_Thing_kind ?T ?h ?_) | (refine' x_get_Thing_entries ?T ?h ?_) | (refine' x_get_Thing_held ?T ?h ?_)
  | (refine' x_get_Files_disk ?T ?h ?_) | (refine' x_get_Files_kept ?T ?h ?_) | (refine' x_get_Files_used ?T ?h ?_)
  | (refine' x_get_Disk_blocks ?T ?h ?_) | (refine' x_get_Disk_log ?T ?h ?_)
  | (refine' x_get_Reader_row ?T ?h ?_) | (refine' x_get_Reader_at ?T ?h ?_) | (refine' x_get_Reader_good ?T ?h ?_)
  | (refine' x_get_Files_slot ?T ?h ?_) | (refine' x_get_Files_turn ?T ?h ?_) | (refine' x_get_Files_is_new ?T ?h ?_))
local macro_rules | `(tactic| walk_at "set") => `(tactic| first
  | ((with_reducible refine' x_set_Disk_blocks ?T ?h ?_); (case T => assumption); (case h => walk_at "hp"))
  | ((with_reducible refine' i_set_Disk_blocks ?T ?h ?_); (case T => assumption); (case h => walk_at "hp"))
  | ((with_reducible refine' x_set_Disk_log ?T ?h ?_); (case T => assumption); (case h => walk_at "hp"))
  | ((with_reducible refine' i_set_Disk_log ?T ?h ?_); (case T => assumption); (case h => walk_at "hp"))
  | ((with_reducible refine' x_set_Thing_kind ?T ?h ?_); (case T => assumption); (case h => walk_at "hp"))
  | ((with_reducible refine' i_set_Thing_kind ?T ?h ?_); (case T => assumption); (case h => walk_at "hp"))
  | ((with_reducible refine' x_set_Thing_held ?T ?h ?_); (case T => assumption); (case h => walk_at "hp"))
  | ((with_reducible refine' i_set_Thing_held ?T ?h ?_); (case T => assumption); (case h => walk_at "hp"))
  | ((with_reducible refine' x_set_Thing_entries ?T ?h ?_); (case T => assumption); (case h => walk_at "hp"))
  | ((with_reducible refine' i_set_Thing_entries ?T ?h ?_); (case T => assumption); (case h => walk_at "hp"))
  | ((with_reducible refine' x_set_Reader_row ?T ?h ?_); (case T => assumption); (case h => walk_at "hp"))
  | ((with_reducible refine' i_set_Reader_row ?T ?h ?_); (case T => assumption); (case h => walk_at "hp"))
  | ((with_reducible refine' x_set_Reader_at ?T ?h ?_); (case T => assumption); (case h => walk_at "hp"))
  | ((with_reducible refine' i_set_Reader_at ?T ?h ?_); (case T => assumption); (case h => walk_at "hp"))
  | ((with_reducible refine' x_set_Reader_good ?T ?h ?_); (case T => assumption); (case h => walk_at "hp"))
  | ((with_reducible refine' i_set_Reader_good ?T ?h ?_); (case T => assumption); (case h => walk_at "hp"))
  | ((with_reducible refine' x_set_Files_disk ?T ?h ?_); (case T => assumption); (case h => walk_at "hp"))
  | ((with_reducible refine' i_set_Files_disk ?T ?h ?_); (case T => assumption); (case h => walk_at "hp"))
  | ((with_reducible refine' x_set_Files_state ?T ?h ?_); (case T => assumption); (case h => walk_at "hp"))
  | ((with_reducible refine' i_set_Files_state ?T ?h ?_); (case T => assumption); (case h => walk_at "hp"))
  | ((with_reducible refine' x_set_Files_kept ?T ?h ?_); (case T => assumption); (case h => walk_at "hp"))
  | ((with_reducible refine' i_set_Files_kept ?T ?h ?_); (case T => assumption); (case h => walk_at "hp"))
  | ((with_reducible refine' x_set_Files_slot ?T ?h ?_); (case T => assumption); (case h => walk_at "hp"))
  | ((with_reducible refine' i_set_Files_slot ?T ?h ?_); (case T => assumption); (case h => walk_at "hp"))
  | ((with_reducible refine' x_set_Files_turn ?T ?h ?_); (case T => assumption); (case h => walk_at "hp"))
  | ((with_reducible refine' i_set_Files_turn ?T ?h ?_); (case T => assumption); (case h => walk_at "hp"))
  | ((with_reducible refine' x_set_Files_used ?T ?h ?_); (case T => assumption); (case h => walk_at "hp"))
  | ((with_reducible refine' i_set_Files_used ?T ?h ?_); (case T => assumption); (case h => walk_at "hp"))
  | ((with_reducible refine' x_set_Files_is_new ?T ?h ?_); (case T => assumption); (case h => walk_at "hp"))
  | ((with_reducible refine' i_set_Files_is_new ?T ?h ?_); (case T => assumption); (case h => walk_at "hp")))
local macro_rules | `(tactic| walk_at "go1") => `(tactic| first
  | ((with_reducible refine w_var (v := ?vv) ?e ?_); (case e => rfl))
  | ((with_reducible walk_at "get"); (case T => assumption); (case h => walk_at "hp"))
  | (with_reducible refine x_bl ?_)
  | (with_reducible refine x_isN ?_) | (with_reducible refine x_notN ?_) | (with_reducible refine x_eqI ?_) | (with_reducible refine x_neI ?_) | (with_reducible refine x_eqS ?_) | (with_reducible refine x_neS ?_)
  | (with_reducible refine x_addI ?_) | (with_reducible refine x_subI ?_) | (with_reducible refine x_ltI ?_) | (with_reducible refine x_leI ?_) | (with_reducible refine x_gtI ?_) | (with_reducible refine x_geI ?_)
  | (with_reducible refine x_bv ?_) | (with_reducible refine x_part ?_) | (with_reducible refine x_neg ?_) | (with_reducible refine x_inS ?_)
  | (walk_at "set")
  | ((with_reducible refine' x_bmL ?h ?_); (case h => walk_at "hp")) | ((with_reducible refine' x_bmL0 ?h ?_); (case h => walk_at "hp")))
local macro_rules | `(tactic| walk_at "go") => `(tactic| ((try with_reducible (conv => whnf)); repeat ((walk_at "go1"); (try with_reducible (conv => whnf)))))
/-! ### sorted once, sorted for good -/
def sle (x y : Str) : Bool := !decide (y.cps.toList < x.cps.toList)
theorem sle_iff {x y : Str} : sle x y = true ↔ x.cps.toList ≤ y.cps.toList := by
  unfold sle
  rw [Bool.not_eq_true', decide_eq_false_iff_not]
  exact Iff.rfl
theorem sle_trans (x y z : Str) (h1 : sle x y = true) (h2 : sle y z = true) : sle x z = true := sle_iff.mpr (List.le_trans (sle_iff.mp h1) (sle_iff.mp h2))
theorem sle_total (x y : Str) : (sle x y || sle y x) = true := by
  rw [Bool.or_eq_true]
  rcases List.le_total x.cps.toList y.cps.toList with h | h
  · exact .inl (sle_iff.mpr h)
  · exact .inr (sle_iff.mpr h)
theorem sle_anti {x y : Str} (h1 : sle x y = true) (h2 : sle y x = true) : x = y := by
  have e := List.le_antisymm (sle_iff.mp h1) (sle_iff.mp h2)
  obtain ⟨⟨a⟩⟩ := x
  obtain ⟨⟨b⟩⟩ := y
  simp only at e
  rw [e]
def sortS (ks : List Str) : List Str := ks.mergeSort sle
theorem rising_pw : ∀ (l : List Str) (p : Str), risingS p l = true → (p :: l).Pairwise fun a b => sle a b = true
  | [], p, _ => List.pairwise_singleton _ _
  | x :: r, p, h => by
    have h1 : (!ltCps x.cps.toList p.cps.toList && risingS x r) = true := h
    obtain ⟨h2, h3⟩ := Bool.and_eq_true_iff.mp h1
    have ih := rising_pw r x h3
    have hp : sle p x = true := by
      unfold sle
      rw [← ltCps_eq]
      exact h2
    refine List.Pairwise.cons (fun y hy => ?_) ih
    rcases List.mem_cons.mp hy with e | e
    · rw [e]; exact hp
    · exact sle_trans _ _ _ hp ((List.pairwise_cons.mp ih).1 y e)
theorem sorted_is {ys ks : List Str} (h : ys.Perm ks) (hs : sortedS ys = true) : ys = sortS ks := by
  have p1 : ys.Pairwise fun a b => sle a b = true := by
    cases ys with
    | nil => exact .nil
    | cons x r => exact rising_pw r x hs
  exact List.Perm.eq_of_pairwise (le := fun a b => sle a b = true) (fun a b _ _ h1 h2 => sle_anti h1 h2) p1 (List.pairwise_mergeSort sle_trans sle_total ks) (h.trans (List.mergeSort_perm ks sle).symm)
theorem sortS_perm (ks : List Str) : (sortS ks).Perm ks := List.mergeSort_perm ks sle
def zle (x y : Int) : Bool := decide (x ≤ y)
def sortZ (ks : List Int) : List Int := ks.mergeSort zle
theorem sortZ_perm (ks : List Int) : (sortZ ks).Perm ks := List.mergeSort_perm ks zle
theorem sortedZ_is {ys ks : List Int} (h : ys.Perm ks) (hs : ys.Pairwise (· ≤ ·)) : ys = sortZ ks :=
  List.Perm.eq_of_pairwise (le := fun a b => zle a b = true) (fun a b _ _ h1 h2 => Int.le_antisymm (of_decide_eq_true h1) (of_decide_eq_true h2)) (hs.imp fun h => decide_eq_true h)
    (List.pairwise_mergeSort (le := zle) (fun a b c h1 h2 => decide_eq_true (Int.le_trans (of_decide_eq_true h1) (of_decide_eq_true h2))) (fun a b => by
      rw [Bool.or_eq_true]
      rcases Int.le_total a b with h | h
      · exact .inl (decide_eq_true h)
      · exact .inr (decide_eq_true h)) ks) (h.trans (List.mergeSort_perm ks zle).symm)
/-! ### text_bytes -/
def tbytes (z : Str) : List Int := [(z.length : Int)] ++ z.cps.toList.map fun c : Nat => (c : Int)
/-- a new list of ints -/
def NewL (H : Hp) (Q : VK) (xs : List Int) : Prop := ∀ p H', H p = none → H' p = some (.lst (xs.map V.int)) → Same H H' → Q (.ref p) H'
def sp_text_bytes (K : PySem.W.Frag) : Sp := fun vs H Q E => ∃ t : Str, vs = [.str t] ∧ t.length ≤ 1000 ∧ NewL H Q (tbytes t)
def t_text_bytes (K : PySem.W.Frag) (W : WX) : TS := uRet (uOp rCat (uLst (uCons (uCB cLenS (uCons (tVar 0) uNil)) uNil)) (uLc (uStrI (tVar 0)) (vName 1) tYes (uCB cOrd (uCons (tVar 1) uNil)) [1]))
theorem x_ord {H : Hp} {Q : VK} {c : Nat} (q : Q (.int (c : Int)) H) : cOrd [.str ⟨#[c]⟩] H Q := ⟨_, rfl, rfl, q⟩
theorem pure_text_bytes {K : PySem.W.Frag} {vs : List V} {H : Hp} {Q : VK} {E : XK} (h : sp_text_bytes K vs H Q E) : t_text_bytes K (WE1 E) (fin Q) (start ["text", "sign"] vs) H := by
  obtain ⟨t, rfl, hl, q⟩ := h
  have hz : t.length ≤ sizeLine := Nat.le_trans hl (by rw [sizeLine_eq]; decide)
  have ls : t.cps.toList.length = t.length := Array.length_toList
  show t_text_bytes K _ (fin Q) [some (.str t), none] H
  unfold t_text_bytes
  walk_at "go"
  refine x_lenS hz ?_
  walk_at "go"
  refine x_lst fun l H1 nl hl1 s1 => ?_
  walk_at "go"
  refine x_istr ?_
  refine x_lcW walk_str (fun i acc _ => acc = (t.cps.toList.take i).map fun c : Nat => V.int (c : Int)) (fun _ _ _ _ _ h => h) (fun _ _ => trivial) (by show t.length ≤ _; omega) rfl (fun i x D H' H'' acc P P0 hi nD hD s2 hP hY k1 k2 => ?_) (fun D H' acc nD hD lA s2 hP => ?_)
  · obtain ⟨rfl, c, hc, rfl⟩ := hY
    refine ⟨rfl, ?_⟩
    refine x_yes ?_
    refine x_ifT rfl ?_
    walk_at "go"
    refine x_ord ?_
    refine k1 _ _ (Same.refl _) ?_
    subst hP
    have hc2 : t.cps.toList[i]? = some c := by rw [← hc]; simp
    rw [take_snoc hc2, List.map_append]
    rfl
  · have e3 : t.cps.toList.take t.cps.size = t.cps.toList := List.take_of_length_le (by rw [ls]; exact Nat.le_refl _)
    rw [e3] at hP
    subst hP
    refine x_cat (s2 _ _ hl1) hD ?_ fun p H3 np hp s3 => ?_
    · rw [sizeLine_eq, List.length_map, ls]
      show 1 + t.length ≤ _
      omega
    refine q p H3 (s1.free (s2.free np)) ?_ ((s1.trans s2).trans s3)
    rw [hp]
    unfold tbytes
    rw [List.map_append, List.map_map]
    rfl
/-! ### thing_bytes -/
def entB (es : List (Str × Int)) (z : Str) : List Int := [(lk es z).getD 0] ++ tbytes z
def thingB (n : Int) (t : Th) : List Int :=
  if t.dir = true then [n, 1, (t.ents.length : Int)] ++ (sortS (t.ents.map (·.1))).flatMap (entB t.ents)
  else [n, 0, (t.held.length : Int) / 256, (t.held.length : Int) % 256] ++ t.held
/-- a thing within bounds -/
structure Wt (t : Th) : Prop where
  kd : (t.ents.map (·.1)).Nodup
  el : t.ents.length ≤ 50
  hl : t.held.length ≤ 1000
  nl : ∀ e ∈ t.ents, e.1.length ≤ 60
theorem tbytes_len (z : Str) : (tbytes z).length = z.length + 1 := by
  unfold tbytes
  rw [List.length_append, List.length_map]
  show 1 + z.cps.toList.length = z.cps.size + 1
  rw [Array.length_toList]
  omega
theorem entB_len {es : List (Str × Int)} {z : Str} (h : z.length ≤ 60) : (entB es z).length ≤ 62 := by
  unfold entB
  rw [List.length_append, tbytes_len]
  show 1 + _ ≤ _
  omega
theorem flat_len {α : Type} {f : α → List Int} {b : Nat} : ∀ {l : List α}, (∀ x ∈ l, (f x).length ≤ b) → (l.flatMap f).length ≤ l.length * b
  | [], _ => by simp
  | x :: r, h => by
    rw [List.flatMap_cons, List.length_append, List.length_cons, Nat.succ_mul]
    have h1 := h x List.mem_cons_self
    have h2 := flat_len (l := r) fun y hy => h y (List.mem_cons_of_mem _ hy)
    omega
theorem thingB_len {n : Int} {t : Th} (w : Wt t) : (thingB n t).length ≤ 4000 := by
  unfold thingB
  split
  · rw [List.length_append]
    have h1 : (sortS (t.ents.map (·.1))).length = t.ents.length := by rw [(sortS_perm _).length_eq, List.length_map]
    have h2 := flat_len (f := entB t.ents) (b := 62) (l := sortS (t.ents.map (·.1))) fun z hz => by
      obtain ⟨e, he, rfl⟩ := List.mem_map.mp ((sortS_perm _).mem_iff.mp hz)
      exact entB_len (w.nl e he)
    have := w.el
    show 3 + _ ≤ _
    omega
  · rw [List.length_append]
    have := w.hl
    show 4 + _ ≤ _
    omega
def sp_thing_bytes (K : PySem.W.Frag) : Sp := fun vs H Q E => ∃ (n : Int) (v : V) (t : Th), vs = [.int n, v] ∧ ThAt K H v t ∧ Wt t ∧ NewL H Q (thingB n t)
def t_thing_bytes (K : PySem.W.Frag) (W : WX) : TS := uSeq (uIfS (uTest (uOp rEq (uFld K (tVar 1) "kind") (uC (.str "dir")))) (uSeq (uAsg (uLst (uCons (tVar 0) (uCons (uC (.int 1)) (uCons (uCB cLenD (uCons (uFld K (tVar 1) "entries") uNil)) uNil)))) (vName 2))
    (uSeq (uFor (jList K (uCB cSortDS (uCons (uFld K (tVar 1) "entries") uNil))) (vName 3) (uAsg (uOp rCat (uOp rCat (tVar 2) (uLst (uCons (uDGet (uFld K (tVar 1) "entries") (tVar 3)) uNil))) (uCallW (sp_text_bytes K) W (uCons (tVar 3) uNil))) (vName 2)))
    (uRet (tVar 2)))) uNext)
    (uRet (uOp rCat (uLst (uCons (tVar 0) (uCons (uC (.int 0)) (uCons (uOp rDivI (uCB (cLenQ K) (uCons (uFld K (tVar 1) "held") uNil)) (uC (.int 256))) (uCons (uOp rModI (uCB (cLenQ K) (uCons (uFld K (tVar 1) "held") uNil)) (uC (.int 256))) uNil))))) (uFld K (tVar 1) "held")))
theorem lk_some {κ β : Type} [DecidableEq κ] {l : List (κ × β)} {k : κ} (h : k ∈ l.map (·.1)) : ∃ v, lk l k = some v := by
  cases e : lk l k with
  | none => exact absurd h (lk_none.mp e)
  | some v => exact ⟨v, rfl⟩
theorem flat_snoc {α : Type} {f : α → List Int} {l : List α} {i : Nat} {x : α} (h : l[i]? = some x) : (l.take (i + 1)).flatMap f = (l.take i).flatMap f ++ f x := by
  rw [take_snoc h, List.flatMap_append]
  simp
theorem pure_thing_bytes {K : PySem.W.Frag} (T : PxThing K) {vs : List V} {H : Hp} {Q : VK} {E : XK} (h : sp_thing_bytes K vs H Q E) : t_thing_bytes K (WE1 E) (fin Q) (start ["number", "thing", "found", "name"] vs) H := by
  obtain ⟨n, v, t, rfl, ⟨el, p, dx, hl, rfl, h1, h2, h3⟩, w, q⟩ := h
  show t_thing_bytes K _ (fin Q) [some (.int n), some (.ref p), none, none] H
  unfold t_thing_bytes
  walk_at "go"
  rw [kind_dir]
  cases hd : t.dir with
  | true =>
    have eb : thingB n t = [n, 1, (t.ents.length : Int)] ++ (sortS (t.ents.map (·.1))).flatMap (entB t.ents) := by unfold thingB; rw [if_pos hd]
    refine x_ifT rfl ?_
    walk_at "go"
    refine x_lenD h3 ?_
    rw [ek_len]
    walk_at "go"
    refine x_lst fun a H1 na ha s1 => ?_
    walk_at "go"
    refine x_sortDS (.inl (s1 _ _ h3)) (ek_keys t.ents) (by rw [List.length_map]; have := w.el; omega) fun ys b H2 pm so nb hb s2 => ?_
    rw [sorted_is pm so] at hb
    clear pm so
    have hmem : ∀ z ∈ sortS (t.ents.map (·.1)), z ∈ t.ents.map (·.1) := fun z hz => (sortS_perm _).mem_iff.mp hz
    have hlen : (sortS (t.ents.map (·.1))).length = t.ents.length := by rw [(sortS_perm _).length_eq, List.length_map]
    generalize sortS (t.ents.map (·.1)) = zs at eb hb hmem hlen
    refine x_ilist (SqL.of hb) ?_
    have s12 := s1.trans s2
    refine x_forL (xs := zs.map V.str) (fun i σ H' => (∃ l o, σ = [some (.int n), some (.ref p), some (.ref l), o] ∧ H' l = some (.lst (([n, 1, (t.ents.length : Int)] ++ (zs.take i).flatMap (entB t.ents)).map V.int)) ∧ H l = none) ∧ Same H2 H') ⟨⟨a, _, rfl, s2 _ _ ha, na⟩, Same.refl _⟩ (fun i σ H' _ h => SqL.of (h.2 _ _ hb)) (fun i x σ H' hx h => ?_) (fun σ H' h => ?_)
    · obtain ⟨⟨l, o, rfl, hl', nl⟩, s⟩ := h
      rw [List.getElem?_map] at hx
      obtain ⟨z, hz, rfl⟩ := Option.map_eq_some_iff.mp hx
      have hzm := hmem z (List.mem_of_getElem? hz)
      obtain ⟨j, hj⟩ := lk_some hzm
      have hz60 : z.length ≤ 60 := by
        obtain ⟨e, he, rfl⟩ := List.mem_map.mp hzm
        exact w.nl e he
      have sA := s12.trans s
      have bl : (([n, 1, (t.ents.length : Int)] ++ (zs.take i).flatMap (entB t.ents)).map V.int).length ≤ 10000 := by
        rw [List.length_map, List.length_append]
        have h5 := flat_len (f := entB t.ents) (b := 62) (l := zs.take i) fun y hy => by
          obtain ⟨e, he, rfl⟩ := List.mem_map.mp (hmem y (List.mem_of_mem_take hy))
          exact entB_len (w.nl e he)
        have h6 : (zs.take i).length ≤ 50 := by rw [List.length_take]; have := w.el; omega
        show 3 + _ ≤ _
        omega
      walk_at "go"
      have g1 := sA _ _ h1
      walk_at "go"
      refine x_dget (.inl (sA _ _ h3)) (k := Sum.inr z) rfl (by rw [ek_get, hj]; rfl) ?_
      walk_at "go"
      refine x_lst fun l2 H3 n3 h3' s3 => ?_
      walk_at "go"
      refine x_cat (s3 _ _ hl') h3' (by rw [sizeLine_eq]; show _ + 1 ≤ _; omega) fun l4 H4 n4 h4 s4 => ?_
      walk_at "go"
      refine ⟨z, rfl, by omega, fun l5 H5 n5 h5 s5 => ?_⟩
      walk_at "go"
      have bt : ((tbytes z).map V.int).length ≤ 61 := by rw [List.length_map, tbytes_len]; omega
      refine x_cat (s5 _ _ h4) h5 (by rw [sizeLine_eq, List.length_append]; show _ + 1 + _ ≤ _; omega) fun l6 H6 n6 h6 s6 => ?_
      walk_at "go"
      have sB := (((s3.trans s4).trans s5).trans s6)
      refine ⟨⟨l6, _, rfl, ?_, (sA.trans ((s3.trans s4).trans s5)).free n6⟩, s.trans sB⟩
      rw [h6, flat_snoc hz]
      have e9 : entB t.ents z = [j] ++ tbytes z := by unfold entB; rw [hj]; rfl
      rw [e9]
      simp only [List.map_append, List.append_assoc]
      rfl
    · obtain ⟨⟨l, o, rfl, hl', nl⟩, s⟩ := h
      walk_at "go"
      rw [List.length_map, List.take_length, ← eb] at hl'
      exact q l H' nl hl' (s12.trans s)
  | false =>
    have eb : thingB n t = [n, 0, (t.held.length : Int) / 256, (t.held.length : Int) % 256] ++ t.held := by unfold thingB; rw [if_neg (by rw [hd]; decide)]
    refine x_ifF rfl ?_
    walk_at "go"
    refine x_lenL h2 ?_
    rw [List.length_map]
    walk_at "go"
    refine x_divI ⟨by decide, by decide⟩ ?_
    walk_at "go"
    refine x_lenL h2 ?_
    rw [List.length_map]
    walk_at "go"
    refine x_modI (by decide) ?_
    walk_at "go"
    refine x_lst fun a H1 na ha s1 => ?_
    have g1 := s1 _ _ h1
    walk_at "go"
    refine x_cat ha (s1 _ _ h2) (by rw [sizeLine_eq, List.length_map]; have := w.hl; show 4 + _ ≤ _; omega) fun l H2 nl hl2 s2 => ?_
    refine q l H2 (s1.free nl) ?_ (s1.trans s2)
    rw [hl2, eb, List.map_append]
    rfl
end SP

set_option Elab.async false
set_option linter.all false
set_option maxRecDepth 100000
set_option maxHeartbeats 4000000
/-! Images. -/
namespace SP
open PySem PySem.Spec PyProof.Rows L2
local macro_rules | `(tactic| walk_at "hp") => `(tactic| first
  | assumption
  | exact upd_same
  | (refine' sameAt ?sA ?hA; (case sA => assumption); (case hA => walk_at "hp"))
  | (refine' Eq.trans (upd_ne ?nA) ?hA; (case nA => walk_at "ne"); (case hA => walk_at "hp")))
local macro_rules | `(tactic| walk_at "ne") => `(tactic| first
  | assumption
  | (refine' Ne.symm ?hA; assumption)
  | (refine' ne_of_none (H := _) ?hA (by assumption); walk_at "hp")
  | (refine' Ne.symm (ne_of_none (H := _) ?hA (by assumption)); walk_at "hp")
  | (refine' ne_of ?hA ?hB ?hC; (case hA => assumption); (case hB => walk_at "hp"); (case hC => (intro z; cases z))))
local macro_rules | `(tactic| walk_at "sm") => `(tactic| first
  | exact Same.refl _
  | assumption
  | (refine' sameTr ?sA ?sB; (case sA => assumption); (case sB => walk_at "sm")))
local macro_rules | `(tactic| walk_at "dm") => `(tactic| first
  | exact dmRefl
  | assumption
  | (refine' dmUpd ?dA; (case dA => walk_at "dm"))
  | (refine' dmSame ?sA ?dA; (case sA => assumption); (case dA => walk_at "dm")))
local macro_rules | `(tactic| walk_at "fr") => `(tactic| first
  | assumption
  | (refine' dmAt ?dA ?hA; (case hA => assumption); (case dA => walk_at "dm")))
local macro_rules | `(tactic| walk_at "ab") => `(tactic| (exfalso; refine absurd ?hA (noneSome ?hB); (case hB => walk_at "hp"); (case hA => assumption)))
local macro_rules | `(tactic| walk_at "kp") => `(tactic| first
  | exact Keep.refl
  | assumption
  | (refine' Keep.trans ?kA (keepUpd ?kB ?kC ?kD); (case kB => simp); (case kC => walk_at "hp"); (case kD => (intro xs z; cases z)); (case kA => walk_at "kp"))
  | (refine' keepTr ?kB ?kA; (case kB => assumption); (case kA => walk_at "kp"))
  | (refine' keepSm ?kB ?kA; (case kB => assumption); (case kA => walk_at "kp")))
local macro_rules | `(tactic| walk_at "get") => `(tactic| first
  | (refine' x_get_Files_state ?T ?h ?_) | (refine' x_get_Thing_kind ?T ?h ?_) | (refine' x_get_Thing_entries ?T ?h ?_) | (refine' x_get_Thing_held ?T ?h ?_)
  | (refine' x_get_Files_disk ?T ?h ?_) | (refine' x_get_Files_kept ?T ?h ?_) | (refine' x_get_Files_used ?T ?h ?_)
  | (refine' x_get_Disk_blocks ?T ?h ?_) | (refine' x_get_Disk_log ?T ?h ?_)
  | (refine' x_get_Reader_row ?T ?h ?_) | (refine' x_get_Reader_at ?T ?h ?_) | (refine' x_get_Reader_good ?T ?h ?_)
  | (refine' x_get_Files_slot ?T ?h ?_) | (refine' x_get_Files_turn ?T ?h ?_) | (refine' x_get_Files_is_new ?T ?h ?_))
local macro_rules | `(tactic| walk_at "set") => `(tactic| first
  | ((with_reducible refine' x_set_Disk_blocks ?T ?h ?_); (case T => assumption); (case h => walk_at "hp"))
  | ((with_reducible refine' i_set_Disk_blocks ?T ?h ?_); (case T => assumption); (case h => walk_at "hp"))
  | ((with_reducible refine' x_set_Disk_log ?T ?h ?_); (case T => assumption); (case h => walk_at "hp"))
  | ((with_reducible refine' i_set_Disk_log ?T ?h ?_); (case T => assumption); (case h => walk_at "hp"))
  | ((with_reducible refine' x_set_Thing_kind ?T ?h ?_); (case T => assumption); (case h => walk_at "hp"))
  | ((with_reducible refine' i_set_Thing_kind ?T ?h ?_); (case T => assumption); (case h => walk_at "hp"))
  | ((with_reducible refine' x_set_Thing_held ?T ?h ?_); (case T => assumption); (case h => walk_at "hp"))
  | ((with_reducible refine' i_set_Thing_held ?T ?h ?_); (case T => assumption); (case h => walk_at "hp"))
  | ((with_reducible refine' x_set_Thing_entries ?T ?h ?_); (case T => assumption); (case h => walk_at "hp"))
  | ((with_reducible refine' i_set_Thing_entries ?T ?h ?_); (case T => assumption); (case h => walk_at "hp"))
  | ((with_reducible refine' x_set_Reader_row ?T ?h ?_); (case T => assumption); (case h => walk_at "hp"))
  | ((with_reducible refine' i_set_Reader_row ?T ?h ?_); (case T => assumption); (case h => walk_at "hp"))
  | ((with_reducible refine' x_set_Reader_at ?T ?h ?_); (case T => assumption); (case h => walk_at "hp"))
  | ((with_reducible refine' i_set_Reader_at ?T ?h ?_); (case T => assumption); (case h => walk_at "hp"))
  | ((with_reducible refine' x_set_Reader_good ?T ?h ?_); (case T => assumption); (case h => walk_at "hp"))
  | ((with_reducible refine' i_set_Reader_good ?T ?h ?_); (case T => assumption); (case h => walk_at "hp"))
  | ((with_reducible refine' x_set_Files_disk ?T ?h ?_); (case T => assumption); (case h => walk_at "hp"))
  | ((with_reducible refine' i_set_Files_disk ?T ?h ?_); (case T => assumption); (case h => walk_at "hp"))
  | ((with_reducible refine' x_set_Files_state ?T ?h ?_); (case T => assumption); (case h => walk_at "hp"))
  | ((with_reducible refine' i_set_Files_state ?T ?h ?_); (case T => assumption); (case h => walk_at "hp"))
  | ((with_reducible refine' x_set_Files_kept ?T ?h ?_); (case T => assumption); (case h => walk_at "hp"))
  | ((with_reducible refine' i_set_Files_kept ?T ?h ?_); (case T => assumption); (case h => walk_at "hp"))
  | ((with_reducible refine' x_set_Files_slot ?T ?h ?_); (case T => assumption); (case h => walk_at "hp"))
  | ((with_reducible refine' i_set_Files_slot ?T ?h ?_); (case T => assumption); (case h => walk_at "hp"))
  | ((with_reducible refine' x_set_Files_turn ?T ?h ?_); (case T => assumption); (case h => walk_at "hp"))
  | ((with_reducible refine' i_set_Files_turn ?T ?h ?_); (case T => assumption); (case h => walk_at "hp"))
  | ((with_reducible refine' x_set_Files_used ?T ?h ?_); (case T => assumption); (case h => walk_at "hp"))
  | ((with_reducible refine' i_set_Files_used ?T ?h ?_); (case T => assumption); (case h => walk_at "hp"))
  | ((with_reducible refine' x_set_Files_is_new ?T ?h ?_); (case T => assumption); (case h => walk_at "hp"))
  | ((with_reducible refine' i_set_Files_is_new ?T ?h ?_); (case T => assumption); (case h => walk_at "hp")))
local macro_rules | `(tactic| walk_at "go1") => `(tactic| first
  | ((with_reducible refine w_var (v := ?vv) ?e ?_); (case e => rfl))
  | ((with_reducible walk_at "get"); (case T => assumption); (case h => walk_at "hp"))
  | (with_reducible refine x_bl ?_)
  | (with_reducible refine x_isN ?_) | (with_reducible refine x_notN ?_) | (with_reducible refine x_eqI ?_) | (with_reducible refine x_neI ?_) | (with_reducible refine x_eqS ?_) | (with_reducible refine x_neS ?_)
  | (with_reducible refine x_addI ?_) | (with_reducible refine x_subI ?_) | (with_reducible refine x_ltI ?_) | (with_reducible refine x_leI ?_) | (with_reducible refine x_gtI ?_) | (with_reducible refine x_geI ?_)
  | (with_reducible refine x_bv ?_) | (with_reducible refine x_part ?_) | (with_reducible refine x_neg ?_) | (with_reducible refine x_inS ?_)
  | (walk_at "set")
  | ((with_reducible refine' x_bmL ?h ?_); (case h => walk_at "hp")) | ((with_reducible refine' x_bmL0 ?h ?_); (case h => walk_at "hp")))
local macro_rules | `(tactic| walk_at "go") => `(tactic| ((try with_reducible (conv => whnf)); repeat ((walk_at "go1"); (try with_reducible (conv => whnf)))))
/-- a state within bounds -/
structure Ws (S : St) : Prop where
  kd : (S.map (·.1)).Nodup
  sl : S.length ≤ 50
  wt : ∀ x ∈ S, Wt x.2
def thD : Th := ⟨false, [], []⟩
def numB (S : St) (n : Int) : List Int := thingB n ((lk S n).getD thD)
def stateB (S : St) : List Int := [(S.length : Int)] ++ (sortZ (S.map (·.1))).flatMap (numB S)
theorem numB_len {S : St} {n : Int} (w : Ws S) (h : n ∈ S.map (·.1)) : (numB S n).length ≤ 4000 := by
  obtain ⟨t, e⟩ := lk_some h
  unfold numB
  rw [e]
  exact thingB_len (w.wt _ (lk_mem e))
theorem stateB_len {S : St} (w : Ws S) : (stateB S).length ≤ 200001 := by
  unfold stateB
  rw [List.length_append]
  have h1 : (sortZ (S.map (·.1))).length = S.length := by rw [(sortZ_perm _).length_eq, List.length_map]
  have h2 := flat_len (f := numB S) (b := 4000) (l := sortZ (S.map (·.1))) fun z hz => numB_len w ((sortZ_perm _).mem_iff.mp hz)
  have := w.sl
  show 1 + _ ≤ _
  omega
def sp_state_bytes (K : PySem.W.Frag) : Sp := fun vs H Q E => ∃ (a : Addr) (S : St), vs = [.ref a] ∧ StateAt K H a S ∧ Ws S ∧ NewL H Q (stateB S)
def t_state_bytes (K : PySem.W.Frag) (W : WX) : TS := uSeq (uAsg (uLst (uCons (uCB cLenD (uCons (tVar 0) uNil)) uNil)) (vName 1))
    (uSeq (uFor (jList K (uCB cSortDI (uCons (tVar 0) uNil))) (vName 2) (uAsg (uOp rCat (tVar 1) (uCallW (sp_thing_bytes K) W (uCons (tVar 2) (uCons (uDGet (tVar 0) (tVar 2)) uNil)))) (vName 1)))
    (uRet (tVar 1)))
theorem pure_state_bytes {K : PySem.W.Frag} {vs : List V} {H : Hp} {Q : VK} {E : XK} (h : sp_state_bytes K vs H Q E) : t_state_bytes K (WE1 E) (fin Q) (start ["state", "found", "number"] vs) H := by
  obtain ⟨a, S, rfl, hS, w, q⟩ := h
  obtain ⟨kvs, hk, pk⟩ := id hS
  have lkv : kvs.length = S.length := Paired.len pk
  show t_state_bytes K _ (fin Q) [some (.ref a), none, none] H
  unfold t_state_bytes
  walk_at "go"
  refine x_lenD hk ?_
  rw [lkv]
  walk_at "go"
  refine x_lst fun l0 H1 na ha s1 => ?_
  walk_at "go"
  refine x_sortDI (.inl (s1 _ _ hk)) (kv_keys pk) (by rw [List.length_map]; have := w.sl; omega) fun ys b H2 pm so nb hb s2 => ?_
  rw [sortedZ_is pm so] at hb
  clear pm so
  have eb : stateB S = [(S.length : Int)] ++ (sortZ (S.map (·.1))).flatMap (numB S) := rfl
  have hmem : ∀ z ∈ sortZ (S.map (·.1)), z ∈ S.map (·.1) := fun z hz => (sortZ_perm _).mem_iff.mp hz
  have hlen : (sortZ (S.map (·.1))).length = S.length := by rw [(sortZ_perm _).length_eq, List.length_map]
  generalize sortZ (S.map (·.1)) = zs at eb hb hmem hlen
  refine x_ilist (SqL.of hb) ?_
  have s12 := s1.trans s2
  refine x_forL (xs := zs.map V.int) (fun i σ H' => (∃ l o, σ = [some (.ref a), some (.ref l), o] ∧ H' l = some (.lst (([(S.length : Int)] ++ (zs.take i).flatMap (numB S)).map V.int)) ∧ H l = none) ∧ Same H2 H') ⟨⟨l0, _, rfl, s2 _ _ ha, na⟩, Same.refl _⟩ (fun i σ H' _ h => SqL.of (h.2 _ _ hb)) (fun i x σ H' hx h => ?_) (fun σ H' h => ?_)
  · obtain ⟨⟨l, o, rfl, hl', nl⟩, s⟩ := h
    rw [List.getElem?_map] at hx
    obtain ⟨z, hz, rfl⟩ := Option.map_eq_some_iff.mp hx
    have hzm := hmem z (List.mem_of_getElem? hz)
    obtain ⟨t, et⟩ := lk_some hzm
    have sA := s12.trans s
    obtain ⟨kvs', v, ha', hv, th⟩ := state_get (hS.same sA) et
    have wt := w.wt _ (lk_mem et)
    have bl : (([(S.length : Int)] ++ (zs.take i).flatMap (numB S)).map V.int).length ≤ 200001 := by
      rw [List.length_map, List.length_append]
      have h5 := flat_len (f := numB S) (b := 4000) (l := zs.take i) fun y hy => numB_len w (hmem y (List.mem_of_mem_take hy))
      have h6 : (zs.take i).length ≤ 50 := by rw [List.length_take]; have := w.sl; omega
      show 1 + _ ≤ _
      omega
    walk_at "go"
    refine x_dget (.inl ha') (k := Sum.inl z) rfl hv ?_
    walk_at "go"
    refine ⟨z, v, t, rfl, th, wt, fun l5 H5 n5 h5 s5 => ?_⟩
    walk_at "go"
    have bt : ((thingB z t).map V.int).length ≤ 4000 := by rw [List.length_map]; exact thingB_len wt
    refine x_cat (s5 _ _ hl') h5 (by rw [sizeLine_eq]; omega) fun l6 H6 n6 h6 s6 => ?_
    walk_at "go"
    refine ⟨⟨l6, _, rfl, ?_, (sA.trans s5).free n6⟩, s.trans (s5.trans s6)⟩
    rw [h6, flat_snoc hz]
    have e9 : numB S z = thingB z t := by unfold numB; rw [et]; rfl
    rw [e9]
    simp only [List.map_append, List.append_assoc]
  · obtain ⟨⟨l, o, rfl, hl', nl⟩, s⟩ := h
    walk_at "go"
    rw [List.length_map, List.take_length, ← eb] at hl'
    exact q l H' nl hl' (s12.trans s)
/-! ### image -/
abbrev Sn := List (Str × St)
def SnapsAt (K : PySem.W.Frag) (H : Hp) (a : Addr) (L : Sn) : Prop := ∃ kvs, H a = some (.dK kvs) ∧ Paired (KV Sum.inr fun v S => ∃ s, v = .ref s ∧ StateAt K H s S) kvs L
theorem SnapsAt.same {K : PySem.W.Frag} {H H' : Hp} {a : Addr} {L : Sn} (s : Same H H') (h : SnapsAt K H a L) : SnapsAt K H' a L := by
  obtain ⟨kvs, e, p⟩ := h
  refine ⟨kvs, s _ _ e, kv_mono (fun _ _ z => ?_) p⟩
  obtain ⟨b, e1, e2⟩ := z
  exact ⟨b, e1, e2.same s⟩
theorem snaps_get {K : PySem.W.Frag} {H : Hp} {a : Addr} {L : Sn} {z : Str} {S : St} (h : SnapsAt K H a L) (e : lk L z = some S) : ∃ kvs s, H a = some (.dK kvs) ∧ valV kvs (Sum.inr z) = some (.ref s) ∧ StateAt K H s S := by
  obtain ⟨kvs, ha, p⟩ := h
  obtain ⟨v, e1, s, rfl, e2⟩ := (kv_get (k := Sum.inr) (F := fun v S => ∃ s, v = .ref s ∧ StateAt K H s S) (fun _ _ => inr_inj) (j := z) p).1 S e
  exact ⟨kvs, s, ha, e1, e2⟩
structure Wn (L : Sn) : Prop where
  kd : (L.map (·.1)).Nodup
  ln : L.length ≤ 10
  nl : ∀ x ∈ L, x.1.length ≤ 60
  ws : ∀ x ∈ L, Ws x.2
def snapB (L : Sn) (z : Str) : List Int := tbytes z ++ stateB ((lk L z).getD [])
def imgB (S : St) (L : Sn) : List Int := ([(L.length : Int)] ++ stateB S) ++ (sortS (L.map (·.1))).flatMap (snapB L)
theorem snapB_len {L : Sn} {z : Str} (w : Wn L) (h : z ∈ L.map (·.1)) : (snapB L z).length ≤ 200100 := by
  obtain ⟨S, e⟩ := lk_some h
  have hm := lk_mem e
  unfold snapB
  rw [List.length_append, tbytes_len, e]
  have := w.nl _ hm
  have := stateB_len (w.ws _ hm)
  show _ + 1 + (stateB S).length ≤ _
  simp only at *
  omega
theorem imgB_len {S : St} {L : Sn} (w : Ws S) (wn : Wn L) : (imgB S L).length ≤ 3000000 := by
  unfold imgB
  rw [List.length_append, List.length_append]
  have h1 : (sortS (L.map (·.1))).length = L.length := by rw [(sortS_perm _).length_eq, List.length_map]
  have h2 := flat_len (f := snapB L) (b := 200100) (l := sortS (L.map (·.1))) fun z hz => snapB_len wn ((sortS_perm _).mem_iff.mp hz)
  have := wn.ln
  have := stateB_len w
  show 1 + _ + _ ≤ _
  omega
def sp_image (K : PySem.W.Frag) : Sp := fun vs H Q E => ∃ (a b : Addr) (S : St) (L : Sn), vs = [.ref a, .ref b] ∧ StateAt K H a S ∧ SnapsAt K H b L ∧ Ws S ∧ Wn L ∧ NewL H Q (imgB S L)
def t_image (K : PySem.W.Frag) (W : WX) : TS := uSeq (uAsg (uOp rCat (uLst (uCons (uCB cLenD (uCons (tVar 1) uNil)) uNil)) (uCallW (sp_state_bytes K) W (uCons (tVar 0) uNil))) (vName 2))
    (uSeq (uFor (jList K (uCB cSortDS (uCons (tVar 1) uNil))) (vName 3) (uAsg (uOp rCat (uOp rCat (tVar 2) (uCallW (sp_text_bytes K) W (uCons (tVar 3) uNil))) (uCallW (sp_state_bytes K) W (uCons (uDGet (tVar 1) (tVar 3)) uNil))) (vName 2)))
    (uRet (tVar 2)))
theorem pure_image {K : PySem.W.Frag} {vs : List V} {H : Hp} {Q : VK} {E : XK} (h : sp_image K vs H Q E) : t_image K (WE1 E) (fin Q) (start ["state", "snaps", "found", "name"] vs) H := by
  obtain ⟨a, b, S, L, rfl, hS, hL, w, wn, q⟩ := h
  obtain ⟨kvs, hk, pk⟩ := id hL
  have lkv : kvs.length = L.length := Paired.len pk
  show t_image K _ (fin Q) [some (.ref a), some (.ref b), none, none] H
  unfold t_image
  walk_at "go"
  refine x_lenD hk ?_
  rw [lkv]
  walk_at "go"
  refine x_lst fun l0 H1 na ha s1 => ?_
  walk_at "go"
  refine ⟨a, S, rfl, hS.same s1, w, fun l1 H2 n1 h1 s2 => ?_⟩
  walk_at "go"
  have sB := stateB_len w
  refine x_cat (s2 _ _ ha) h1 (by rw [sizeLine_eq, List.length_map]; show 1 + _ ≤ _; omega) fun l2 H3 n2 h2 s3 => ?_
  walk_at "go"
  have s13 := (s1.trans s2).trans s3
  refine x_sortDS (.inl (s13 _ _ hk)) (kv_keys pk) (by rw [List.length_map]; have := wn.ln; omega) fun ys c H4 pm so nb hb s4 => ?_
  rw [sorted_is pm so] at hb
  clear pm so
  have eb : imgB S L = ([(L.length : Int)] ++ stateB S) ++ (sortS (L.map (·.1))).flatMap (snapB L) := rfl
  have hmem : ∀ z ∈ sortS (L.map (·.1)), z ∈ L.map (·.1) := fun z hz => (sortS_perm _).mem_iff.mp hz
  have hlen : (sortS (L.map (·.1))).length = L.length := by rw [(sortS_perm _).length_eq, List.length_map]
  generalize sortS (L.map (·.1)) = zs at eb hb hmem hlen
  refine x_ilist (SqL.of hb) ?_
  have s14 := s13.trans s4
  have h2' : H4 l2 = some (.lst ((([(L.length : Int)] ++ stateB S) ++ (zs.take 0).flatMap (snapB L)).map V.int)) := by
    rw [s4 _ _ h2]
    simp
  refine x_forL (xs := zs.map V.str) (fun i σ H' => (∃ l o, σ = [some (.ref a), some (.ref b), some (.ref l), o] ∧ H' l = some (.lst ((([(L.length : Int)] ++ stateB S) ++ (zs.take i).flatMap (snapB L)).map V.int)) ∧ H l = none) ∧ Same H4 H') ⟨⟨l2, _, rfl, h2', (s1.trans s2).free n2⟩, Same.refl _⟩ (fun i σ H' _ h => SqL.of (h.2 _ _ hb)) (fun i x σ H' hx h => ?_) (fun σ H' h => ?_)
  · obtain ⟨⟨l, o, rfl, hl', nl⟩, s⟩ := h
    rw [List.getElem?_map] at hx
    obtain ⟨z, hz, rfl⟩ := Option.map_eq_some_iff.mp hx
    have hzm := hmem z (List.mem_of_getElem? hz)
    obtain ⟨S2, e2⟩ := lk_some hzm
    have sA := s14.trans s
    have z60 := wn.nl _ (lk_mem e2)
    have w2 := wn.ws _ (lk_mem e2)
    have bl : ((([(L.length : Int)] ++ stateB S) ++ (zs.take i).flatMap (snapB L)).map V.int).length ≤ 3000000 := by
      rw [List.length_map, List.length_append, List.length_append]
      have h5 := flat_len (f := snapB L) (b := 200100) (l := zs.take i) fun y hy => snapB_len wn (hmem y (List.mem_of_mem_take hy))
      have h6 : (zs.take i).length ≤ 10 := by rw [List.length_take]; have := wn.ln; omega
      show 1 + _ + _ ≤ _
      omega
    walk_at "go"
    refine ⟨z, rfl, by simp only at z60; omega, fun l5 H5 n5 h5 s5 => ?_⟩
    walk_at "go"
    have bt : ((tbytes z).map V.int).length ≤ 61 := by rw [List.length_map, tbytes_len]; simp only at z60; omega
    refine x_cat (s5 _ _ hl') h5 (by rw [sizeLine_eq]; omega) fun l6 H6 n6 h6 s6 => ?_
    walk_at "go"
    obtain ⟨kvs', s0, ha', hv, hS2⟩ := snaps_get (hL.same ((sA.trans s5).trans s6)) e2
    refine x_dget (.inl ha') (k := Sum.inr z) rfl hv ?_
    walk_at "go"
    refine ⟨s0, S2, rfl, hS2, w2, fun l7 H7 n7 h7 s7 => ?_⟩
    walk_at "go"
    have bs : ((stateB S2).map V.int).length ≤ 200001 := by rw [List.length_map]; exact stateB_len w2
    refine x_cat (s7 _ _ h6) h7 (by rw [sizeLine_eq, List.length_append]; omega) fun l8 H8 n8 h8 s8 => ?_
    walk_at "go"
    refine ⟨⟨l8, _, rfl, ?_, (((sA.trans s5).trans s6).trans s7).free n8⟩, s.trans (((s5.trans s6).trans s7).trans s8)⟩
    rw [h8, flat_snoc hz]
    have e9 : snapB L z = tbytes z ++ stateB S2 := by unfold snapB; rw [e2]; rfl
    rw [e9]
    simp only [List.map_append, List.append_assoc]
  · obtain ⟨⟨l, o, rfl, hl', nl⟩, s⟩ := h
    walk_at "go"
    rw [List.length_map, List.take_length, ← eb] at hl'
    exact q l H' nl hl' (s14.trans s)
end SP

set_option Elab.async false
set_option linter.all false
set_option maxRecDepth 100000
set_option maxHeartbeats 4000000
/-! Chains of blocks. -/
namespace SP
open PySem PySem.Spec PyProof.Rows L2
local macro_rules | `(tactic| walk_at "hp") => `(tactic| first
  | assumption
  | exact upd_same
  | (refine' sameAt ?sA ?hA; (case sA => assumption); (case hA => walk_at "hp"))
  | (refine' Eq.trans (upd_ne ?nA) ?hA; (case nA => walk_at "ne"); (case hA => walk_at "hp")))
local macro_rules | `(tactic| walk_at "ne") => `(tactic| first
  | assumption
  | (refine' Ne.symm ?hA; assumption)
  | (refine' ne_of_none (H := _) ?hA (by assumption); walk_at "hp")
  | (refine' Ne.symm (ne_of_none (H := _) ?hA (by assumption)); walk_at "hp")
  | (refine' ne_of ?hA ?hB ?hC; (case hA => assumption); (case hB => walk_at "hp"); (case hC => (intro z; cases z))))
local macro_rules | `(tactic| walk_at "sm") => `(tactic| first
  | exact Same.refl _
  | assumption
  | (refine' sameTr ?sA ?sB; (case sA => assumption); (case sB => walk_at "sm")))
local macro_rules | `(tactic| walk_at "dm") => `(tactic| first
  | exact dmRefl
  | assumption
  | (refine' dmUpd ?dA; (case dA => walk_at "dm"))
  | (refine' dmSame ?sA ?dA; (case sA => assumption); (case dA => walk_at "dm")))
local macro_rules | `(tactic| walk_at "fr") => `(tactic| first
  | assumption
  | (refine' dmAt ?dA ?hA; (case hA => assumption); (case dA => walk_at "dm")))
local macro_rules | `(tactic| walk_at "ab") => `(tactic| (exfalso; refine absurd ?hA (noneSome ?hB); (case hB => walk_at "hp"); (case hA => assumption)))
local macro_rules | `(tactic| walk_at "kp") => `(tactic| first
  | exact Keep.refl
  | assumption
  | (refine' Keep.trans ?kA (keepUpd ?kB ?kC ?kD); (case kB => simp); (case kC => walk_at "hp"); (case kD => (intro xs z; cases z)); (case kA => walk_at "kp"))
  | (refine' keepTr ?kB ?kA; (case kB => assumption); (case kA => walk_at "kp"))
  | (refine' keepSm ?kB ?kA; (case kB => assumption); (case kA => walk_at "kp")))
local macro_rules | `(tactic| walk_at "get") => `(tactic| first
  | (refine' x_get_Files_state ?T ?h ?_) | (refine' x_get_Thing_kind ?T ?h ?_) | (refine' x_get_Thing_entries ?T ?h ?_) | (refine' x_get_Thing_held ?T ?h ?_)
  | (refine' x_get_Files_disk ?T ?h ?_) | (refine' x_get_Files_kept ?T ?h ?_) | (refine' x_get_Files_used ?T ?h ?_)
  | (refine' x_get_Disk_blocks ?T ?h ?_) | (refine' x_get_Disk_log ?T ?h ?_)
  | (refine' x_get_Reader_row ?T ?h ?_) | (refine' x_get_Reader_at ?T ?h ?_) | (refine' x_get_Reader_good ?T ?h ?_)
  | (refine' x_get_Files_slot ?T ?h ?_) | (refine' x_get_Files_turn ?T ?h ?_) | (refine' x_get_Files_is_new ?T ?h ?_))
local macro_rules | `(tactic| walk_at "set") => `(tactic| first
  | ((with_reducible refine' x_set_Disk_blocks ?T ?h ?_); (case T => assumption); (case h => walk_at "hp"))
  | ((with_reducible refine' i_set_Disk_blocks ?T ?h ?_); (case T => assumption); (case h => walk_at "hp"))
  | ((with_reducible refine' x_set_Disk_log ?T ?h ?_); (case T => assumption); (case h => walk_at "hp"))
  | ((with_reducible refine' i_set_Disk_log ?T ?h ?_); (case T => assumption); (case h => walk_at "hp"))
  | ((with_reducible refine' x_set_Thing_kind ?T ?h ?_); (case T => assumption); (case h => walk_at "hp"))
  | ((with_reducible refine' i_set_Thing_kind ?T ?h ?_); (case T => assumption); (case h => walk_at "hp"))
  | ((with_reducible refine' x_set_Thing_held ?T ?h ?_); (case T => assumption); (case h => walk_at "hp"))
  | ((with_reducible refine' i_set_Thing_held ?T ?h ?_); (case T => assumption); (case h => walk_at "hp"))
  | ((with_reducible refine' x_set_Thing_entries ?T ?h ?_); (case T => assumption); (case h => walk_at "hp"))
  | ((with_reducible refine' i_set_Thing_entries ?T ?h ?_); (case T => assumption); (case h => walk_at "hp"))
  | ((with_reducible refine' x_set_Reader_row ?T ?h ?_); (case T => assumption); (case h => walk_at "hp"))
  | ((with_reducible refine' i_set_Reader_row ?T ?h ?_); (case T => assumption); (case h => walk_at "hp"))
  | ((with_reducible refine' x_set_Reader_at ?T ?h ?_); (case T => assumption); (case h => walk_at "hp"))
  | ((with_reducible refine' i_set_Reader_at ?T ?h ?_); (case T => assumption); (case h => walk_at "hp"))
  | ((with_reducible refine' x_set_Reader_good ?T ?h ?_); (case T => assumption); (case h => walk_at "hp"))
  | ((with_reducible refine' i_set_Reader_good ?T ?h ?_); (case T => assumption); (case h => walk_at "hp"))
  | ((with_reducible refine' x_set_Files_disk ?T ?h ?_); (case T => assumption); (case h => walk_at "hp"))
  | ((with_reducible refine' i_set_Files_disk ?T ?h ?_); (case T => assumption); (case h => walk_at "hp"))
  | ((with_reducible refine' x_set_Files_state ?T ?h ?_); (case T => assumption); (case h => walk_at "hp"))
  | ((with_reducible refine' i_set_Files_state ?T ?h ?_); (case T => assumption); (case h => walk_at "hp"))
  | ((with_reducible refine' x_set_Files_kept ?T ?h ?_); (case T => assumption); (case h => walk_at "hp"))
  | ((with_reducible refine' i_set_Files_kept ?T ?h ?_); (case T => assumption); (case h => walk_at "hp"))
  | ((with_reducible refine' x_set_Files_slot ?T ?h ?_); (case T => assumption); (case h => walk_at "hp"))
  | ((with_reducible refine' i_set_Files_slot ?T ?h ?_); (case T => assumption); (case h => walk_at "hp"))
  | ((with_reducible refine' x_set_Files_turn ?T ?h ?_); (case T => assumption); (case h => walk_at "hp"))
  | ((with_reducible refine' i_set_Files_turn ?T ?h ?_); (case T => assumption); (case h => walk_at "hp"))
  | ((with_reducible refine' x_set_Files_used ?T ?h ?_); (case T => assumption); (case h => walk_at "hp"))
  | ((with_reducible refine' i_set_Files_used ?T ?h ?_); (case T => assumption); (case h => walk_at "hp"))
  | ((with_reducible refine' x_set_Files_is_new ?T ?h ?_); (case T => assumption); (case h => walk_at "hp"))
  | ((with_reducible refine' i_set_Files_is_new ?T ?h ?_); (case T => assumption); (case h => walk_at "hp")))
local macro_rules | `(tactic| walk_at "go1") => `(tactic| first
  | ((with_reducible refine w_var (v := ?vv) ?e ?_); (case e => rfl))
  | ((with_reducible walk_at "get"); (case T => assumption); (case h => walk_at "hp"))
  | (with_reducible refine x_bl ?_)
  | (with_reducible refine x_isN ?_) | (with_reducible refine x_notN ?_) | (with_reducible refine x_eqI ?_) | (with_reducible refine x_neI ?_) | (with_reducible refine x_eqS ?_) | (with_reducible refine x_neS ?_)
  | (with_reducible refine x_addI ?_) | (with_reducible refine x_subI ?_) | (with_reducible refine x_ltI ?_) | (with_reducible refine x_leI ?_) | (with_reducible refine x_gtI ?_) | (with_reducible refine x_geI ?_)
  | (with_reducible refine x_bv ?_) | (with_reducible refine x_part ?_) | (with_reducible refine x_neg ?_) | (with_reducible refine x_inS ?_)
  | (walk_at "set")
  | ((with_reducible refine' x_bmL ?h ?_); (case h => walk_at "hp")) | ((with_reducible refine' x_bmL0 ?h ?_); (case h => walk_at "hp")))
local macro_rules | `(tactic| walk_at "go") => `(tactic| ((try with_reducible (conv => whnf)); repeat ((walk_at "go1"); (try with_reducible (conv => whnf)))))
def manyBlocks (n : Nat) : Int := ((n : Int) + 62 - 1) / 62
def sp_many_blocks (K : PySem.W.Frag) : Sp := fun vs H Q E => ∃ (r : Addr) (xs : List V), vs = [.ref r] ∧ H r = some (.lst xs) ∧ ∀ H', Same H H' → Q (.int (manyBlocks xs.length)) H'
def t_many_blocks (K : PySem.W.Frag) (W : WX) : TS := uRet (uOp rDivI (uOp rSubI (uOp rAddI (uCB (cLenQ K) (uCons (tVar 0) uNil)) (uC (.int 62))) (uC (.int 1))) (uC (.int 62)))
theorem pure_many_blocks {K : PySem.W.Frag} {vs : List V} {H : Hp} {Q : VK} {E : XK} (h : sp_many_blocks K vs H Q E) : t_many_blocks K (WE1 E) (fin Q) (start ["row"] vs) H := by
  obtain ⟨r, xs, rfl, hr, q⟩ := h
  show t_many_blocks K _ (fin Q) [some (.ref r)] H
  unfold t_many_blocks
  walk_at "go"
  refine x_lenL hr ?_
  walk_at "go"
  refine x_divI ⟨by decide, by decide⟩ ?_
  exact q H (Same.refl H)
def padL (xs : List Int) : List Int := xs ++ List.replicate (64 - xs.length) 0
def sp_padded (K : PySem.W.Frag) : Sp := fun vs H Q E => ∃ (r : Addr) (xs : List Int), vs = [.ref r] ∧ H r = some (.lst (xs.map V.int)) ∧ xs.length ≤ 64 ∧ ∀ p H', H p = none → H' p = some (.tup ((padL xs).map V.int)) → Same H H' → Q (.ref p) H'
def t_padded (K : PySem.W.Frag) (W : WX) : TS := uRet (uCB (cTuple K) (uCons (uOp rCat (tVar 0) (uOp rRep (uLst (uCons (uC (.int 0)) uNil)) (uOp rSubI (uC (.int 64)) (uCB (cLenQ K) (uCons (tVar 0) uNil))))) uNil))
theorem pure_padded {K : PySem.W.Frag} {vs : List V} {H : Hp} {Q : VK} {E : XK} (h : sp_padded K vs H Q E) : t_padded K (WE1 E) (fin Q) (start ["row"] vs) H := by
  obtain ⟨r, xs, rfl, hr, hl, q⟩ := h
  show t_padded K _ (fin Q) [some (.ref r)] H
  unfold t_padded
  walk_at "go"
  refine x_lst fun a H1 na ha s1 => ?_
  walk_at "go"
  refine x_lenL (s1 _ _ hr) ?_
  rw [List.length_map]
  walk_at "go"
  refine x_rep ha (by omega) (by omega) (by rw [sizeLine_eq]; show 1 * _ ≤ _; omega) fun b H2 nb hb s2 => ?_
  have e0 : (List.replicate (64 - (xs.length : Int)).toNat [V.int 0]).flatten = (List.replicate (64 - xs.length) (0 : Int)).map V.int := by
    rw [flat_one, List.map_replicate]
    congr 1
    omega
  rw [e0] at hb
  refine x_cat (s2 _ _ (s1 _ _ hr)) hb (by rw [sizeLine_eq, List.length_map, List.length_map, List.length_replicate]; omega) fun c H3 nc hc s3 => ?_
  walk_at "go"
  refine x_tupleL (SqL.of hc) fun p H4 np hp s4 => ?_
  refine q p H4 (s1.free (s2.free (s3.free np))) ?_ (((s1.trans s2).trans s3).trans s4)
  rw [hp]
  unfold padL
  rw [List.map_append]
theorem padL_len {xs : List Int} (h : xs.length ≤ 64) : (padL xs).length = 64 := by
  unfold padL
  rw [List.length_append, List.length_replicate]
  omega
/-! ### write_root -/
def rootL (turn first : Int) : List Int := padL [83, turn / 16777216 % 256, turn / 65536 % 256, turn / 256 % 256, turn % 256, first]
def sp_write_root (K : PySem.W.Frag) : Sp := fun vs H Q E => ∃ (p bl lg : Addr) (n turn first : Int) (B : List (Option (List Int))) (L : List Ent), vs = [.ref p, .int n, .int turn, .int first] ∧ DiskAt K H p bl lg B L ∧ 0 ≤ n ∧ n.toNat < B.length ∧ L.length ≤ 90000 ∧
  ∀ H', Keep [bl, lg] H H' → DiskAt K H' p bl lg (B.set n.toNat (some (rootL turn first))) (L ++ [.wr n (rootL turn first)]) → Q .non H'
def t_write_root (K : PySem.W.Frag) (W : WX) : TS := uDrop (uMethW (He.ga K "Disk") "write" (sp_Disk_write K) W (tVar 0) (uCons (tVar 1) (uCons (uCallW (sp_padded K) W (uCons (uLst (uCons (uC (.int 83)) (uCons (uOp rModI (uOp rDivI (tVar 2) (uC (.int 16777216))) (uC (.int 256))) (uCons (uOp rModI (uOp rDivI (tVar 2) (uC (.int 65536))) (uC (.int 256))) (uCons (uOp rModI (uOp rDivI (tVar 2) (uC (.int 256))) (uC (.int 256))) (uCons (uOp rModI (tVar 2) (uC (.int 256))) (uCons (tVar 3) uNil))))))) uNil)) uNil)))
theorem keep_pre {ms : List Addr} {H H1 H2 : Hp} (s : Same H H1) (k : Keep ms H1 H2) : Keep ms H H2 := (Keep.of s).trans k
theorem pure_write_root {K : PySem.W.Frag} {vs : List V} {H : Hp} {Q : VK} {E : XK} (h : sp_write_root K vs H Q E) : t_write_root K (WE1 E) (fin Q) (start ["disk", "slot", "turn", "first"] vs) H := by
  obtain ⟨p, bl, lg, n, turn, first, B, L, rfl, D, h0, hn, hl, q⟩ := h
  obtain ⟨dx, ho⟩ := D.o
  show t_write_root K _ (fin Q) [some (.ref p), some (.int n), some (.int turn), some (.int first)] H
  unfold t_write_root
  walk_at "go"
  refine x_meth_Disk_write ho ?_
  walk_at "go"
  refine x_divI ⟨by decide, by decide⟩ ?_
  walk_at "go"
  refine x_modI (by decide) ?_
  walk_at "go"
  refine x_divI ⟨by decide, by decide⟩ ?_
  walk_at "go"
  refine x_modI (by decide) ?_
  walk_at "go"
  refine x_divI ⟨by decide, by decide⟩ ?_
  walk_at "go"
  refine x_modI (by decide) ?_
  walk_at "go"
  refine x_modI (by decide) ?_
  walk_at "go"
  refine x_lst fun a H1 na ha s1 => ?_
  walk_at "go"
  refine ⟨a, [83, turn / 16777216 % 256, turn / 65536 % 256, turn / 256 % 256, turn % 256, first], rfl, ha, Nat.le_of_ble_eq_true rfl, fun t H2 nt ht s2 => ?_⟩
  walk_at "go"
  refine ⟨p, bl, lg, t, n, B, L, _, rfl, (D.same s1).same s2, h0, hn, by omega, ht, fun H3 k3 D3 => ?_⟩
  walk_at "go"
  exact q H3 (keep_pre (s1.trans s2) k3) D3
/-! ### write_chain -/
def partL (row : List Int) (k : Nat) : List Int := (row.drop (k * 62)).take 62
def blkL (row nums : List Int) (k : Nat) : List Int := padL ([((nums.drop (k + 1)).head?.getD 0), ((partL row k).length : Int)] ++ partL row k)
def chainW (row nums : List Int) (n : Nat) : List (Int × List Int) := (List.range n).map fun k => (nums.getD k 0, blkL row nums k)
def setW (B : List (Option (List Int))) (es : List (Int × List Int)) : List (Option (List Int)) := es.foldl (fun B e => B.set e.1.toNat (some e.2)) B
def logW (es : List (Int × List Int)) : List Ent := es.map fun e => .wr e.1 e.2
theorem setW_len : ∀ {es : List (Int × List Int)} {B : List (Option (List Int))}, (setW B es).length = B.length
  | [], _ => rfl
  | e :: r, B => by
    show (setW (B.set _ _) r).length = _
    rw [setW_len, List.length_set]
theorem partL_len (row : List Int) (k : Nat) : (partL row k).length ≤ 62 := List.length_take_le ..
theorem cutV_nat {xs : List V} {a b : Nat} : cutV xs (some (a : Int)) (some (b : Int)) = (xs.drop a).take (b - a) := by
  unfold cutV
  rw [HT.sIx_nat, HT.sIx_nat]
  by_cases h : a ≤ xs.length
  · rw [Nat.min_eq_left h]
    by_cases h2 : b ≤ xs.length
    · rw [Nat.min_eq_left h2]
    · rw [Nat.min_eq_right (by omega), List.take_of_length_le (by rw [List.length_drop]; omega), List.take_of_length_le (by rw [List.length_drop]; omega)]
  · have e1 : min a xs.length = xs.length := Nat.min_eq_right (by omega)
    rw [e1, List.drop_eq_nil_of_le (Nat.le_refl _), List.drop_eq_nil_of_le (show xs.length ≤ a by omega), List.take_nil, List.take_nil]
theorem cutV_from {xs : List V} {a : Nat} : cutV xs (some (a : Int)) none = xs.drop a := by
  unfold cutV
  rw [HT.sIx_nat, HT.sIx_none]
  by_cases h : a ≤ xs.length
  · rw [Nat.min_eq_left h, List.take_of_length_le (by rw [List.length_drop]; omega)]
  · have e1 : min a xs.length = xs.length := Nat.min_eq_right (by omega)
    rw [e1, List.drop_eq_nil_of_le (Nat.le_refl _), List.drop_eq_nil_of_le (show xs.length ≤ a by omega), List.take_nil]
theorem chainW_succ (row nums : List Int) (k : Nat) : chainW row nums (k + 1) = chainW row nums k ++ [(nums.getD k 0, blkL row nums k)] := by
  unfold chainW
  rw [List.range_succ, List.map_append]
  rfl
def sp_write_chain (K : PySem.W.Frag) : Sp := fun vs H Q E => ∃ (p bl lg r u : Addr) (row nums : List Int) (B : List (Option (List Int))) (L : List Ent), vs = [.ref p, .ref r, .ref u] ∧ DiskAt K H p bl lg B L ∧ H r = some (.lst (row.map V.int)) ∧ H u = some (.lst (nums.map V.int)) ∧
  r ∉ [bl, lg] ∧ u ∉ [bl, lg] ∧ (∀ n ∈ nums, 0 ≤ n ∧ n.toNat < B.length) ∧ L.length + nums.length ≤ 90000 ∧ nums.length ≤ 1000 ∧
  ∀ H', Keep [bl, lg] H H' → DiskAt K H' p bl lg (setW B (chainW row nums nums.length)) (L ++ logW (chainW row nums nums.length)) → Q .non H'
def t_write_chain (K : PySem.W.Frag) (W : WX) : TS := uFor (jRng1 (uCons (uCB (cLenQ K) (uCons (tVar 2) uNil)) uNil)) (vName 3) (uSeq (uAsg (uSl (rSlL K) (tVar 1) (uPart (uOp rMulI (tVar 3) (uC (.int 62)))) (uPart (uOp rMulI (uOp rAddI (tVar 3) (uC (.int 1))) (uC (.int 62))))) (vName 4))
    (uSeq (uAsg (uOp (rIxL K) (uOp rCat (uSl (rSlL K) (tVar 2) (uPart (uOp rAddI (tVar 3) (uC (.int 1)))) uNoPart) (uLst (uCons (uC (.int 0)) uNil))) (uC (.int 0))) (vName 5))
    (uDrop (uMethW (He.ga K "Disk") "write" (sp_Disk_write K) W (tVar 0) (uCons (uOp (rIxL K) (tVar 2) (tVar 3)) (uCons (uCallW (sp_padded K) W (uCons (uOp rCat (uLst (uCons (tVar 5) (uCons (uCB (cLenQ K) (uCons (tVar 4) uNil)) uNil))) (tVar 4)) uNil)) uNil))))))
theorem pure_write_chain {K : PySem.W.Frag} {vs : List V} {H : Hp} {Q : VK} {E : XK} (h : sp_write_chain K vs H Q E) : t_write_chain K (WE1 E) (fin Q) (start ["disk", "row", "numbers", "k", "part", "following"] vs) H := by
  obtain ⟨p, bl, lg, r, u, row, nums, B, L, rfl, D, hr, hu, nr, nu, hn, hL, hN, q⟩ := h
  show t_write_chain K _ (fin Q) [some (.ref p), some (.ref r), some (.ref u), none, none, none] H
  unfold t_write_chain
  walk_at "go"
  refine x_lenL hu ?_
  rw [List.length_map]
  walk_at "go"
  refine x_rng1 (by omega) (by omega) ?_
  refine x_forR (fun k σ H' => (∃ o1 o2 o3, σ = [some (.ref p), some (.ref r), some (.ref u), o1, o2, o3]) ∧ Keep [bl, lg] H H' ∧ DiskAt K H' p bl lg (setW B (chainW row nums k)) (L ++ logW (chainW row nums k))) ⟨⟨_, _, _, rfl⟩, Keep.refl, by
    have e : L ++ logW (chainW row nums 0) = L := List.append_nil L
    rw [e]
    exact D⟩ (fun k σ H' hk h => ?_) (fun σ H' h => ?_)
  · obtain ⟨⟨o1, o2, o3, rfl⟩, kp, D1⟩ := h
    have hk2 : k < nums.length := by omega
    have hr1 := kp.k _ _ nr hr
    have hu1 := kp.k _ _ nu hu
    have e0 : ((0 : Int) + (k : Int)) = (k : Int) := Int.zero_add _
    obtain ⟨dx, ho⟩ := D1.o
    rw [e0]
    walk_at "go"
    refine x_mulI (.inr ⟨by decide, by decide⟩) ?_
    walk_at "go"
    refine x_mulI (.inr ⟨by decide, by decide⟩) ?_
    walk_at "go"
    refine x_slL (SqL.of hr1) fun a H2 na ha s2 => ?_
    have ea : cutV (row.map V.int) (some ((k : Int) * 62)) (some (((k : Int) + 1) * 62)) = (partL row k).map V.int := by
      have h1 : ((k : Int) * 62) = ((k * 62 : Nat) : Int) := by omega
      have h2 : (((k : Int) + 1) * 62) = (((k + 1) * 62 : Nat) : Int) := by omega
      rw [h1, h2, cutV_nat]
      unfold partL
      rw [List.map_take, List.map_drop]
      congr 1
      omega
    rw [ea] at ha
    walk_at "go"
    refine x_slL (SqL.of (s2 _ _ hu1)) fun b H3 nb hb s3 => ?_
    have eb : cutV (nums.map V.int) (some ((k : Int) + 1)) none = (nums.drop (k + 1)).map V.int := by
      have h1 : ((k : Int) + 1) = ((k + 1 : Nat) : Int) := by omega
      rw [h1, cutV_from, List.map_drop]
    rw [eb] at hb
    walk_at "go"
    refine x_lst fun c H4 nc hc s4 => ?_
    walk_at "go"
    refine x_cat (s4 _ _ hb) hc (by rw [sizeLine_eq, List.length_map, List.length_drop]; show _ + 1 ≤ _; omega) fun e H5 ne he s5 => ?_
    walk_at "go"
    refine x_ixL (v := .int ((nums.drop (k + 1)).head?.getD 0)) (SqL.of he) (atI_of (by decide) (by
      show ((nums.drop (k + 1)).map V.int ++ [V.int 0])[0]? = _
      cases nums.drop (k + 1) with
      | nil => rfl
      | cons x y => rfl)) ?_
    walk_at "go"
    have ss := ((s2.trans s3).trans s4).trans s5
    refine x_meth_Disk_write (ss _ _ ho) ?_
    walk_at "go"
    refine x_ixL (v := .int (nums.getD k 0)) (SqL.of (ss _ _ hu1)) (atI_of (by omega) (by
      rw [Int.toNat_natCast, List.getElem?_map, List.getD_eq_getElem?_getD, List.getElem?_eq_getElem hk2]
      rfl)) ?_
    walk_at "go"
    have ha5 := s5 _ _ (s4 _ _ (s3 _ _ ha))
    refine x_lenL ha5 ?_
    rw [List.length_map]
    walk_at "go"
    refine x_lst fun g H6 ng hg s6 => ?_
    walk_at "go"
    have pl := partL_len row k
    refine x_cat hg (s6 _ _ ha5) (by rw [sizeLine_eq, List.length_map]; show 2 + _ ≤ _; omega) fun i H7 ni hi s7 => ?_
    walk_at "go"
    refine ⟨i, [((nums.drop (k + 1)).head?.getD 0), ((partL row k).length : Int)] ++ partL row k, rfl, by rw [hi, List.map_append]; rfl, by rw [List.length_append]; show 2 + _ ≤ _; omega, fun t H8 nt ht s8 => ?_⟩
    walk_at "go"
    have hm : nums.getD k 0 ∈ nums := by
      rw [List.getD_eq_getElem?_getD, List.getElem?_eq_getElem hk2]
      exact List.getElem_mem hk2
    have s18 := (((ss.trans s6).trans s7).trans s8)
    obtain ⟨g0, g1⟩ := hn _ hm
    have lc : (chainW row nums k).length = k := by unfold chainW; rw [List.length_map, List.length_range]
    refine ⟨p, bl, lg, t, nums.getD k 0, _, _, blkL row nums k, rfl, D1.same s18, g0, by rw [setW_len]; exact g1, by unfold logW; rw [List.length_append, List.length_map, lc]; omega, ht, fun H9 k9 D9 => ?_⟩
    walk_at "go"
    refine ⟨⟨_, _, _, rfl⟩, kp.trans (keep_pre s18 k9), ?_⟩
    have e1 : setW B (chainW row nums (k + 1)) = (setW B (chainW row nums k)).set (nums.getD k 0).toNat (some (blkL row nums k)) := by
      rw [chainW_succ]
      unfold setW
      rw [List.foldl_append]
      rfl
    have e2 : L ++ logW (chainW row nums (k + 1)) = L ++ logW (chainW row nums k) ++ [.wr (nums.getD k 0) (blkL row nums k)] := by
      rw [chainW_succ]
      unfold logW
      rw [List.map_append, List.append_assoc]
      rfl
    rw [e1, e2]
    exact D9
  · obtain ⟨⟨o1, o2, o3, rfl⟩, kp, D1⟩ := h
    walk_at "go"
    rw [Int.toNat_natCast] at D1
    exact q H' kp D1
end SP

set_option Elab.async false
set_option linter.all false
set_option maxRecDepth 100000
set_option maxHeartbeats 4000000
/-! Files: made, become, looked at. -/
namespace SP
open PySem PySem.Spec PyProof.Rows L2
local macro_rules | `(tactic| walk_at "hp") => `(tactic| first
  | assumption
  | exact upd_same
  | (refine' sameAt ?sA ?hA; (case sA => assumption); (case hA => walk_at "hp"))
  | (refine' Eq.trans (upd_ne ?nA) ?hA; (case nA => walk_at "ne"); (case hA => walk_at "hp")))
local macro_rules | `(tactic| walk_at "ne") => `(tactic| first
  | assumption
  | (refine' Ne.symm ?hA; assumption)
  | (refine' ne_of_none (H := _) ?hA (by assumption); walk_at "hp")
  | (refine' Ne.symm (ne_of_none (H := _) ?hA (by assumption)); walk_at "hp")
  | (refine' ne_of ?hA ?hB ?hC; (case hA => assumption); (case hB => walk_at "hp"); (case hC => (intro z; cases z))))
local macro_rules | `(tactic| walk_at "sm") => `(tactic| first
  | exact Same.refl _
  | assumption
  | (refine' sameTr ?sA ?sB; (case sA => assumption); (case sB => walk_at "sm")))
local macro_rules | `(tactic| walk_at "dm") => `(tactic| first
  | exact dmRefl
  | assumption
  | (refine' dmUpd ?dA; (case dA => walk_at "dm"))
  | (refine' dmSame ?sA ?dA; (case sA => assumption); (case dA => walk_at "dm")))
local macro_rules | `(tactic| walk_at "fr") => `(tactic| first
  | assumption
  | (refine' dmAt ?dA ?hA; (case hA => assumption); (case dA => walk_at "dm")))
local macro_rules | `(tactic| walk_at "ab") => `(tactic| (exfalso; refine absurd ?hA (noneSome ?hB); (case hB => walk_at "hp"); (case hA => assumption)))
local macro_rules | `(tactic| walk_at "kp") => `(tactic| first
  | exact Keep.refl
  | assumption
  | (refine' Keep.trans ?kA (keepUpd ?kB ?kC ?kD); (case kB => simp); (case kC => walk_at "hp"); (case kD => (intro xs z; cases z)); (case kA => walk_at "kp"))
  | (refine' keepTr ?kB ?kA; (case kB => assumption); (case kA => walk_at "kp"))
  | (refine' keepSm ?kB ?kA; (case kB => assumption); (case kA => walk_at "kp")))
local macro_rules | `(tactic| walk_at "get") => `(tactic| first
  | (refine' x_get_Files_state ?T ?h ?_) | (refine' x_get_Thing_kind ?T ?h ?_) | (refine' x_get_Thing_entries ?T ?h ?_) | (refine' x_get_Thing_held ?T ?h ?_)
  | (refine' x_get_Files_disk ?T ?h ?_) | (refine' x_get_Files_kept ?T ?h ?_) | (refine' x_get_Files_used ?T ?h ?_)
  | (refine' x_get_Disk_blocks ?T ?h ?_) | (refine' x_get_Disk_log ?T ?h ?_)
  | (refine' x_get_Reader_row ?T ?h ?_) | (refine' x_get_Reader_at ?T ?h ?_) | (refine' x_get_Reader_good ?T ?h ?_)
  | (refine' x_get_Files_slot ?T ?h ?_) | (refine' x_get_Files_turn ?T ?h ?_) | (refine' x_get_Files_is_new ?T ?h ?_))
local macro_rules | `(tactic| walk_at "set") => `(tactic| first
  | ((with_reducible refine' x_set_Disk_blocks ?T ?h ?_); (case T => assumption); (case h => walk_at "hp"))
  | ((with_reducible refine' i_set_Disk_blocks ?T ?h ?_); (case T => assumption); (case h => walk_at "hp"))
  | ((with_reducible refine' x_set_Disk_log ?T ?h ?_); (case T => assumption); (case h => walk_at "hp"))
  | ((with_reducible refine' i_set_Disk_log ?T ?h ?_); (case T => assumption); (case h => walk_at "hp"))
  | ((with_reducible refine' x_set_Thing_kind ?T ?h ?_); (case T => assumption); (case h => walk_at "hp"))
  | ((with_reducible refine' i_set_Thing_kind ?T ?h ?_); (case T => assumption); (case h => walk_at "hp"))
  | ((with_reducible refine' x_set_Thing_held ?T ?h ?_); (case T => assumption); (case h => walk_at "hp"))
  | ((with_reducible refine' i_set_Thing_held ?T ?h ?_); (case T => assumption); (case h => walk_at "hp"))
  | ((with_reducible refine' x_set_Thing_entries ?T ?h ?_); (case T => assumption); (case h => walk_at "hp"))
  | ((with_reducible refine' i_set_Thing_entries ?T ?h ?_); (case T => assumption); (case h => walk_at "hp"))
  | ((with_reducible refine' x_set_Reader_row ?T ?h ?_); (case T => assumption); (case h => walk_at "hp"))
  | ((with_reducible refine' i_set_Reader_row ?T ?h ?_); (case T => assumption); (case h => walk_at "hp"))
  | ((with_reducible refine' x_set_Reader_at ?T ?h ?_); (case T => assumption); (case h => walk_at "hp"))
  | ((with_reducible refine' i_set_Reader_at ?T ?h ?_); (case T => assumption); (case h => walk_at "hp"))
  | ((with_reducible refine' x_set_Reader_good ?T ?h ?_); (case T => assumption); (case h => walk_at "hp"))
  | ((with_reducible refine' i_set_Reader_good ?T ?h ?_); (case T => assumption); (case h => walk_at "hp"))
  | ((with_reducible refine' x_set_Files_disk ?T ?h ?_); (case T => assumption); (case h => walk_at "hp"))
  | ((with_reducible refine' i_set_Files_disk ?T ?h ?_); (case T => assumption); (case h => walk_at "hp"))
  | ((with_reducible refine' x_set_Files_state ?T ?h ?_); (case T => assumption); (case h => walk_at "hp"))
  | ((with_reducible refine' i_set_Files_state ?T ?h ?_); (case T => assumption); (case h => walk_at "hp"))
  | ((with_reducible refine' x_set_Files_kept ?T ?h ?_); (case T => assumption); (case h => walk_at "hp"))
  | ((with_reducible refine' i_set_Files_kept ?T ?h ?_); (case T => assumption); (case h => walk_at "hp"))
  | ((with_reducible refine' x_set_Files_slot ?T ?h ?_); (case T => assumption); (case h => walk_at "hp"))
  | ((with_reducible refine' i_set_Files_slot ?T ?h ?_); (case T => assumption); (case h => walk_at "hp"))
  | ((with_reducible refine' x_set_Files_turn ?T ?h ?_); (case T => assumption); (case h => walk_at "hp"))
  | ((with_reducible refine' i_set_Files_turn ?T ?h ?_); (case T => assumption); (case h => walk_at "hp"))
  | ((with_reducible refine' x_set_Files_used ?T ?h ?_); (case T => assumption); (case h => walk_at "hp"))
  | ((with_reducible refine' i_set_Files_used ?T ?h ?_); (case T => assumption); (case h => walk_at "hp"))
  | ((with_reducible refine' x_set_Files_is_new ?T ?h ?_); (case T => assumption); (case h => walk_at "hp"))
  | ((with_reducible refine' i_set_Files_is_new ?T ?h ?_); (case T => assumption); (case h => walk_at "hp")))
local macro_rules | `(tactic| walk_at "go1") => `(tactic| first
  | ((with_reducible refine w_var (v := ?vv) ?e ?_); (case e => rfl))
  | ((with_reducible walk_at "get"); (case T => assumption); (case h => walk_at "hp"))
  | (with_reducible refine x_bl ?_)
  | (with_reducible refine x_isN ?_) | (with_reducible refine x_notN ?_) | (with_reducible refine x_eqI ?_) | (with_reducible refine x_neI ?_) | (with_reducible refine x_eqS ?_) | (with_reducible refine x_neS ?_)
  | (with_reducible refine x_addI ?_) | (with_reducible refine x_subI ?_) | (with_reducible refine x_ltI ?_) | (with_reducible refine x_leI ?_) | (with_reducible refine x_gtI ?_) | (with_reducible refine x_geI ?_)
  | (with_reducible refine x_bv ?_) | (with_reducible refine x_part ?_) | (with_reducible refine x_neg ?_) | (with_reducible refine x_inS ?_)
  | (walk_at "set")
  | ((with_reducible refine' x_bmL ?h ?_); (case h => walk_at "hp")) | ((with_reducible refine' x_bmL0 ?h ?_); (case h => walk_at "hp")))
local macro_rules | `(tactic| walk_at "go") => `(tactic| ((try with_reducible (conv => whnf)); repeat ((walk_at "go1"); (try with_reducible (conv => whnf)))))
structure Fs where
  S : St
  L : Sn
  slot : Int
  turn : Int
  used : List Int
  new : Bool
/-- files at f, over the disk's value dv; ms: what may change -/
structure FilesAt (K : PySem.W.Frag) (ms : List Addr) (H : Hp) (f : Addr) (dv : V) (F : Fs) : Prop where
  o : ∃ dx s kp us, H f = some (oFiles K dx dv (.ref s) (.ref kp) (.int F.slot) (.int F.turn) (.ref us) (.bl F.new)) ∧ StateAt K (av ms H) s F.S ∧ SnapsAt K (av ms H) kp F.L ∧ av ms H us = some (.lst (F.used.map V.int))
theorem av_same (ms : List Addr) (H : Hp) : Same (av ms H) H := fun a o h => (av_of h).2
theorem keep_av {ms ns : List Addr} {H H' : Hp} (k : Keep ns H H') (s : ∀ a ∈ ns, a ∈ ms) : Same (av ms H) (av ms H') := fun a o h => by
  obtain ⟨n, h⟩ := av_of h
  exact av_at (k.k a o (fun z => n (s a z)) h) n
theorem same_avs {ms : List Addr} {H H' : Hp} (k : Same H H') : Same (av ms H) (av ms H') := keep_av (ns := []) (Keep.of k) (fun a h => by cases h)
theorem FilesAt.keep {K : PySem.W.Frag} {ms ns : List Addr} {H H' : Hp} {f : Addr} {dv : V} {F : Fs} (h : FilesAt K ms H f dv F) (k : Keep ns H H') (s : ∀ a ∈ ns, a ∈ ms) (n : f ∉ ns) : FilesAt K ms H' f dv F := by
  obtain ⟨dx, st, kp, us, h1, h2, h3, h4⟩ := h.o
  have z := keep_av k s
  exact ⟨⟨dx, st, kp, us, k.k _ _ n h1, h2.same z, h3.same z, z _ _ h4⟩⟩
theorem FilesAt.same {K : PySem.W.Frag} {ms : List Addr} {H H' : Hp} {f : Addr} {dv : V} {F : Fs} (h : FilesAt K ms H f dv F) (s : Same H H') : FilesAt K ms H' f dv F := h.keep (ns := []) (Keep.of s) (fun a h => by cases h) (by simp)
/-! ### Files.__init__ -/
def sp_Files___init__ (K : PySem.W.Frag) : Sp := fun vs H Q E => ∃ (p dx : Addr) (dv sv kv : V), vs = [.ref p, dv, sv, kv] ∧ H p = some (.ins (He.ga K "Files") dx []) ∧
  ∀ us H', H us = none → Keep [p] H H' → H' p = some (oFiles K dx dv sv kv (.int 0) (.int 1) (.ref us) (.bl false)) → H' us = some (.lst []) → Q .non H'
def t_Files___init__ (K : PySem.W.Frag) (W : WX) : TS := uSeq (uFldS K (tVar 0) (tVar 1) "disk")
    (uSeq (uFldS K (tVar 0) (tVar 2) "state")
    (uSeq (uFldS K (tVar 0) (tVar 3) "kept")
    (uSeq (uFldS K (tVar 0) (uC (.int 0)) "slot")
    (uSeq (uFldS K (tVar 0) (uC (.int 1)) "turn")
    (uSeq (uFldS K (tVar 0) (uLst uNil) "used")
    (uFldS K (tVar 0) (uC (.bl false)) "is_new"))))))
theorem pure_Files___init__ {K : PySem.W.Frag} (T : PxFiles K) {vs : List V} {H : Hp} {Q : VK} {E : XK} (h : sp_Files___init__ K vs H Q E) : t_Files___init__ K (WE1 E) (fin Q) (start ["self", "disk", "state", "snaps"] vs) H := by
  obtain ⟨p, dx, dv, sv, kv, rfl, hp, q⟩ := h
  show t_Files___init__ K _ (fin Q) [some (.ref p), some dv, some sv, some kv] H
  unfold t_Files___init__
  walk_at "go"
  refine x_lst fun a H2 na ha s2 => ?_
  walk_at "go"
  have na0 : H a = none := freeUpd (freeUpd (freeUpd (freeUpd (freeUpd na))))
  exact q a _ na0 (by walk_at "kp") upd_same (by walk_at "hp")
/-! ### Files.may_write -/
def sp_Files_may_write (K : PySem.W.Frag) : Sp := fun vs H Q E => ∃ (f : Addr) (ms : List Addr) (dv : V) (F : Fs), vs = [.ref f] ∧ FilesAt K ms H f dv F ∧ Out K H Q E (if dv = .non then .error "ReadOnly" else .ok .non)
def t_Files_may_write (K : PySem.W.Frag) (W : WX) : TS := uIfS (uTest (uOp rIsN (uFld K (tVar 0) "disk") (uC .non))) (uRaiseW W (He.ga K "ReadOnly")) uNext
theorem pure_Files_may_write {K : PySem.W.Frag} (T : PxFiles K) {vs : List V} {H : Hp} {Q : VK} {E : XK} (h : sp_Files_may_write K vs H Q E) : t_Files_may_write K (WE1 E) (fin Q) (start ["self"] vs) H := by
  obtain ⟨f, ms, dv, F, rfl, ⟨dx, st, kp, us, h1, h2, h3, h4⟩, q⟩ := h
  show t_Files_may_write K _ (fin Q) [some (.ref f)] H
  unfold t_Files_may_write
  walk_at "go"
  refine x_if (fun h => ?_) (fun h => ?_)
  · walk_at "go"
    exact q.err (if_pos (of_decide_eq_true h)) (Same.refl H)
  · walk_at "go"
    exact q.ok (if_neg (of_decide_eq_false h)) (Same.refl H)
/-! ### Files.file_at, find, place_for -/
def fileAt (S : St) (n : Int) : Except Str Th := match lk S n with
  | none => .error "NoThing"
  | some t => if t.dir = true then .error "WrongKind" else .ok t
def sp_Files_file_at (K : PySem.W.Frag) : Sp := fun vs H Q E => ∃ (f : Addr) (ms : List Addr) (dv : V) (F : Fs) (n : Int), vs = [.ref f, .int n] ∧ FilesAt K ms H f dv F ∧
  (∀ x, fileAt F.S n = .error x → ∀ H', Same H H' → Exn K E x H') ∧ (∀ t, fileAt F.S n = .ok t → ∀ v H', Same H H' → ThAt K (av ms H) v t → Q v H')
def t_Files_file_at (K : PySem.W.Frag) (W : WX) : TS := uSeq (uIfS (uTest (uDNotIn (tVar 1) (uFld K (tVar 0) "state"))) (uRaiseW W (He.ga K "NoThing")) uNext)
    (uSeq (uIfS (uTest (uOp rNe (uFld K (uDGet (uFld K (tVar 0) "state") (tVar 1)) "kind") (uC (.str "file")))) (uRaiseW W (He.ga K "WrongKind")) uNext)
    (uRet (uDGet (uFld K (tVar 0) "state") (tVar 1))))
theorem kind_file (b : Bool) : decide (kindS b = "file") = !b := by cases b <;> rfl
theorem pure_Files_file_at {K : PySem.W.Frag} (TT : PxThing K) (T : PxFiles K) {vs : List V} {H : Hp} {Q : VK} {E : XK} (h : sp_Files_file_at K vs H Q E) : t_Files_file_at K (WE1 E) (fin Q) (start ["self", "number"] vs) H := by
  obtain ⟨f, ms, dv, F, n, rfl, ⟨dx, st, kp, us, h1, h2, h3, h4⟩, qe, qo⟩ := h
  have av := av_same ms H
  obtain ⟨kvs, ha, hin⟩ := state_in (n := n) h2
  show t_Files_file_at K _ (fin Q) [some (.ref f), some (.int n)] H
  unfold t_Files_file_at
  walk_at "go"
  refine x_dni (.inl (av _ _ ha)) (k := Sum.inl n) rfl hin ?_
  walk_at "go"
  cases e : lk F.S n with
  | none =>
    refine x_ifT rfl ?_
    walk_at "go"
    exact qe _ (by unfold fileAt; rw [e]) H (Same.refl H)
  | some t =>
    refine x_ifF rfl ?_
    walk_at "go"
    obtain ⟨kvs', v, ha', hv, th⟩ := state_get h2 e
    obtain ⟨el, p, dx2, hl, rfl, g1, g2, g3⟩ := id th
    have k1 := av _ _ g1
    refine x_dget (.inl (av _ _ ha')) (k := Sum.inl n) rfl hv ?_
    walk_at "go"
    rw [kind_file]
    cases hd : t.dir with
    | true =>
      refine x_ifT rfl ?_
      walk_at "go"
      exact qe _ (by unfold fileAt; rw [e]; exact if_pos hd) H (Same.refl H)
    | false =>
      refine x_ifF rfl ?_
      walk_at "go"
      refine x_dget (.inl (av _ _ ha')) (k := Sum.inl n) rfl hv ?_
      exact qo t (by unfold fileAt; rw [e]; exact if_neg (by rw [hd]; decide)) _ H (Same.refl H) th
def findF (S : St) (p : Str) : Except Str Int := match partsOf p with
  | none => .error "BadName"
  | some ns => walkedF S 0 ns
def sp_Files_find (K : PySem.W.Frag) : Sp := fun vs H Q E => ∃ (f : Addr) (ms : List Addr) (dv : V) (F : Fs) (p : Str), vs = [.ref f, .str p] ∧ FilesAt K ms H f dv F ∧ Clo F.S ∧ p.length ≤ 100000 ∧ Out K H Q E (vI (findF F.S p))
def t_Files_find (K : PySem.W.Frag) (W : WX) : TS := uRet (uCallW (sp_walked K) W (uCons (uFld K (tVar 0) "state") (uCons (uCallW (sp_parts K) W (uCons (tVar 1) uNil)) uNil)))
theorem pure_Files_find {K : PySem.W.Frag} (T : PxFiles K) {vs : List V} {H : Hp} {Q : VK} {E : XK} (h : sp_Files_find K vs H Q E) : t_Files_find K (WE1 E) (fin Q) (start ["self", "path"] vs) H := by
  obtain ⟨f, ms, dv, F, p, rfl, ⟨dx, st, kp, us, h1, h2, h3, h4⟩, c, hp, q⟩ := h
  have av := av_same ms H
  show t_Files_find K _ (fin Q) [some (.ref f), some (.str p)] H
  unfold t_Files_find
  walk_at "go"
  refine ⟨p, rfl, hp, fun ns en a H1 na ha s1 => ?_, fun en H1 s1 => ?_⟩
  · walk_at "go"
    refine ⟨st, a, F.S, ns, rfl, (h2.same av).same s1, c, ha, ?_⟩
    cases e : walkedF F.S 0 ns with
    | ok i =>
      intro H2 s2
      exact q.ok (by unfold findF; rw [en]; show vI (walkedF _ _ _) = _; rw [e]; rfl) (s1.trans s2)
    | error x =>
      intro H2 s2
      exact q.err (by unfold findF; rw [en]; show vI (walkedF _ _ _) = _; rw [e]; rfl) (s1.trans s2)
  · exact q.err (by unfold findF; rw [en]; rfl) s1
/-! ### Files.place_for, become -/
def placeFor (S : St) (ns : List Str) : Except Str Int := if ns = [] then .error "IsThere" else match placeOf S ns with
  | .error x => .error x
  | .ok n => (match lk S n with
    | none => .error ""
    | some t => if (lk t.ents (ns.getLast?.getD "")).isSome = true then .error "IsThere" else .ok n)
def sp_Files_place_for (K : PySem.W.Frag) : Sp := fun vs H Q E => ∃ (f b : Addr) (ms : List Addr) (dv : V) (F : Fs) (ns : List Str), vs = [.ref f, .ref b] ∧ FilesAt K ms H f dv F ∧ Clo F.S ∧ H b = some (.lst (ns.map V.str)) ∧ (∀ z ∈ ns, PyData.strOk z = true) ∧ Out K H Q E (vI (placeFor F.S ns))
def t_Files_place_for (K : PySem.W.Frag) (W : WX) : TS := uSeq (uIfS (uTest (uOp (rEqD K) (tVar 1) (uLst uNil))) (uRaiseW W (He.ga K "IsThere")) uNext)
    (uSeq (uAsg (uCallW (sp_place_of K) W (uCons (uFld K (tVar 0) "state") (uCons (tVar 1) uNil))) (vName 2))
    (uSeq (uIfS (uTest (uDIn (uOp (rIxL K) (tVar 1) (uUn rNegI (uC (.int 1)))) (uFld K (uDGet (uFld K (tVar 0) "state") (tVar 2)) "entries"))) (uRaiseW W (He.ga K "IsThere")) uNext)
    (uRet (tVar 2))))
theorem placeOf_in {S : St} (c : Clo S) {ns : List Str} {n : Int} (h : placeOf S ns = .ok n) : ∃ t, lk S n = some t ∧ t.dir = true := by
  unfold placeOf at h
  split at h
  · split at h
    · rename_i m e t et
      split at h
      · rename_i hd
        cases h
        exact ⟨t, et, hd⟩
      · cases h
    · cases h
  · cases h
theorem dpAll_strs {K : PySem.W.Frag} {H : Hp} : ∀ ns : List Str, DpAll K H (ns.map V.str) (ns.map PyData.str)
  | [] => .nil
  | n :: r => .cons (.str n) (dpAll_strs r)
theorem eqv_nil (ns : List Str) : PyData.eqv (.list (ns.map PyData.str)) (.list []) = decide (ns = []) := by
  cases ns with
  | nil => simp [PyData.eqv, PyData.eqvAll]
  | cons x r => simp [PyData.eqv, PyData.eqvAll]
theorem pure_Files_place_for {K : PySem.W.Frag} (TT : PxThing K) (T : PxFiles K) {vs : List V} {H : Hp} {Q : VK} {E : XK} (h : sp_Files_place_for K vs H Q E) : t_Files_place_for K (WE1 E) (fin Q) (start ["self", "names", "place"] vs) H := by
  obtain ⟨f, b, ms, dv, F, ns, rfl, ⟨dx, st, kp, us, h1, h2, h3, h4⟩, c, hb, hok, q⟩ := h
  have av := av_same ms H
  show t_Files_place_for K _ (fin Q) [some (.ref f), some (.ref b), none] H
  unfold t_Files_place_for
  walk_at "go"
  refine x_lst fun l H1 nl hl s1 => ?_
  have sh : Shp 1 (.list (ns.map PyData.str)) := Shp.list (n := 0) fun x hx => by
    obtain ⟨z, hz, rfl⟩ := List.mem_map.mp hx
    exact ⟨by simp [PyData.canLay0, hok z hz], by simp [PyData.depth]⟩
  refine x_eqD (.lst (SqL.of (s1 _ _ hb)) (dpAll_strs ns)) (.lst (SqL.of hl) .nil) (sh.ok (by decide)) rfl ?_
  rw [eqv_nil]
  walk_at "go"
  by_cases e0 : ns = []
  · refine x_ifT (decide_eq_true e0) ?_
    walk_at "go"
    exact q.err (by unfold placeFor; rw [if_pos e0]; rfl) s1
  refine x_ifF (decide_eq_false e0) ?_
  have g1 := s1 _ _ h1
  walk_at "go"
  refine ⟨st, b, F.S, ns, rfl, (h2.same av).same s1, c, s1 _ _ hb, ?_⟩
  cases ep : placeOf F.S ns with
  | error x =>
    intro H2 s2
    exact q.err (by unfold placeFor; rw [if_neg e0, ep]; rfl) (s1.trans s2)
  | ok n =>
    intro H2 s2
    have s12 := s1.trans s2
    obtain ⟨t, et, hd⟩ := placeOf_in c ep
    obtain ⟨kvs, v, ha, hv, el, p, dx2, hl2, rfl, k1, k2, k3⟩ := state_get ((h2.same av).same s12) et
    have g2 := s12 _ _ h1
    walk_at "go"
    have hlast : atI (ns.map V.str) (-1) = some (.str (ns.getLast?.getD "")) := by
      have hp : 0 < ns.length := List.length_pos_iff.mpr e0
      have hx : ixN (ns.map V.str).length (-1) = some (ns.length - 1) := by
        unfold ixN
        rw [if_neg (by decide), List.length_map, if_pos (by omega)]
        congr 1
        omega
      unfold atI
      rw [hx]
      show (ns.map V.str)[ns.length - 1]? = _
      rw [List.getElem?_map, ← List.getLast?_eq_getElem?]
      cases hg : ns.getLast? with
      | none => exact absurd (List.getLast?_eq_none_iff.mp hg) e0
      | some z => rfl
    refine x_ixL (SqL.of (s12 _ _ hb)) hlast ?_
    walk_at "go"
    refine x_dget (.inl ha) (k := Sum.inl n) rfl hv ?_
    walk_at "go"
    refine x_din (.inl k3) (k := Sum.inr (ns.getLast?.getD "")) rfl (b := (lk t.ents (ns.getLast?.getD "")).isSome) (by rw [ek_get, Option.isSome_map]) ?_
    walk_at "go"
    cases hz : (lk t.ents (ns.getLast?.getD "")).isSome with
    | true =>
      refine x_ifT rfl ?_
      walk_at "go"
      exact q.err (by unfold placeFor; rw [if_neg e0, ep]; show vI (match lk F.S n with | none => _ | some t => _) = _; rw [et]; show vI (if _ then _ else _) = _; rw [if_pos hz]; rfl) s12
    | false =>
      refine x_ifF rfl ?_
      walk_at "go"
      exact q.ok (by unfold placeFor; rw [if_neg e0, ep]; show vI (match lk F.S n with | none => _ | some t => _) = _; rw [et]; show vI (if _ then _ else _) = _; rw [if_neg (by rw [hz]; decide)]; rfl) s12
end SP

set_option Elab.async false
set_option linter.all false
set_option maxRecDepth 100000
set_option maxHeartbeats 4000000
/-! Files: become, make. -/
namespace SP
open PySem PySem.Spec PyProof.Rows L2
local macro_rules | `(tactic| walk_at "hp") => `(tactic| first
  | assumption
  | exact upd_same
  | (refine' sameAt ?sA ?hA; (case sA => assumption); (case hA => walk_at "hp"))
  | (refine' Eq.trans (upd_ne ?nA) ?hA; (case nA => walk_at "ne"); (case hA => walk_at "hp")))
local macro_rules | `(tactic| walk_at "ne") => `(tactic| first
  | assumption
  | (refine' Ne.symm ?hA; assumption)
  | (refine' ne_of_none (H := _) ?hA (by assumption); walk_at "hp")
  | (refine' Ne.symm (ne_of_none (H := _) ?hA (by assumption)); walk_at "hp")
  | (refine' ne_of ?hA ?hB ?hC; (case hA => assumption); (case hB => walk_at "hp"); (case hC => (intro z; cases z))))
local macro_rules | `(tactic| walk_at "sm") => `(tactic| first
  | exact Same.refl _
  | assumption
  | (refine' sameTr ?sA ?sB; (case sA => assumption); (case sB => walk_at "sm")))
local macro_rules | `(tactic| walk_at "dm") => `(tactic| first
  | exact dmRefl
  | assumption
  | (refine' dmUpd ?dA; (case dA => walk_at "dm"))
  | (refine' dmSame ?sA ?dA; (case sA => assumption); (case dA => walk_at "dm")))
local macro_rules | `(tactic| walk_at "fr") => `(tactic| first
  | assumption
  | (refine' dmAt ?dA ?hA; (case hA => assumption); (case dA => walk_at "dm")))
local macro_rules | `(tactic| walk_at "ab") => `(tactic| (exfalso; refine absurd ?hA (noneSome ?hB); (case hB => walk_at "hp"); (case hA => assumption)))
local macro_rules | `(tactic| walk_at "kp") => `(tactic| first
  | exact Keep.refl
  | assumption
  | (refine' Keep.trans ?kA (keepUpd ?kB ?kC ?kD); (case kB => simp); (case kC => walk_at "hp"); (case kD => (intro xs z; cases z)); (case kA => walk_at "kp"))
  | (refine' keepTr ?kB ?kA; (case kB => assumption); (case kA => walk_at "kp"))
  | (refine' keepSm ?kB ?kA; (case kB => assumption); (case kA => walk_at "kp")))
local macro_rules | `(tactic| walk_at "get") => `(tactic| first
  | (refine' x_get_Files_state ?T ?h ?_) | (refine' x_get_Thing_kind ?T ?h ?_) | (refine' x_get_Thing_entries ?T ?h ?_) | (refine' x_get_Thing_held ?T ?h ?_)
  | (refine' x_get_Files_disk ?T ?h ?_) | (refine' x_get_Files_kept ?T ?h ?_) | (refine' x_get_Files_used ?T ?h ?_)
  | (refine' x_get_Disk_blocks ?T ?h ?_) | (refine' x_get_Disk_log ?T ?h ?_)
  | (refine' x_get_Reader_row ?T ?h ?_) | (refine' x_get_Reader_at ?T ?h ?_) | (refine' x_get_Reader_good ?T ?h ?_)
  | (refine' x_get_Files_slot ?T ?h ?_) | (refine' x_get_Files_turn ?T ?h ?_) | (refine' x_get_Files_is_new ?T ?h ?_))
local macro_rules | `(tactic| walk_at "set") => `(tactic| first
  | ((with_reducible refine' x_set_Disk_blocks ?T ?h ?_); (case T => assumption); (case h => walk_at "hp"))
  | ((with_reducible refine' i_set_Disk_blocks ?T ?h ?_); (case T => assumption); (case h => walk_at "hp"))
  | ((with_reducible refine' x_set_Disk_log ?T ?h ?_); (case T => assumption); (case h => walk_at "hp"))
  | ((with_reducible refine' i_set_Disk_log ?T ?h ?_); (case T => assumption); (case h => walk_at "hp"))
  | ((with_reducible refine' x_set_Thing_kind ?T ?h ?_); (case T => assumption); (case h => walk_at "hp"))
  | ((with_reducible refine' i_set_Thing_kind ?T ?h ?_); (case T => assumption); (case h => walk_at "hp"))
  | ((with_reducible refine' x_set_Thing_held ?T ?h ?_); (case T => assumption); (case h => walk_at "hp"))
  | ((with_reducible refine' i_set_Thing_held ?T ?h ?_); (case T => assumption); (case h => walk_at "hp"))
  | ((with_reducible refine' x_set_Thing_entries ?T ?h ?_); (case T => assumption); (case h => walk_at "hp"))
  | ((with_reducible refine' i_set_Thing_entries ?T ?h ?_); (case T => assumption); (case h => walk_at "hp"))
  | ((with_reducible refine' x_set_Reader_row ?T ?h ?_); (case T => assumption); (case h => walk_at "hp"))
  | ((with_reducible refine' i_set_Reader_row ?T ?h ?_); (case T => assumption); (case h => walk_at "hp"))
  | ((with_reducible refine' x_set_Reader_at ?T ?h ?_); (case T => assumption); (case h => walk_at "hp"))
  | ((with_reducible refine' i_set_Reader_at ?T ?h ?_); (case T => assumption); (case h => walk_at "hp"))
  | ((with_reducible refine' x_set_Reader_good ?T ?h ?_); (case T => assumption); (case h => walk_at "hp"))
  | ((with_reducible refine' i_set_Reader_good ?T ?h ?_); (case T => assumption); (case h => walk_at "hp"))
  | ((with_reducible refine' x_set_Files_disk ?T ?h ?_); (case T => assumption); (case h => walk_at "hp"))
  | ((with_reducible refine' i_set_Files_disk ?T ?h ?_); (case T => assumption); (case h => walk_at "hp"))
  | ((with_reducible refine' x_set_Files_state ?T ?h ?_); (case T => assumption); (case h => walk_at "hp"))
  | ((with_reducible refine' i_set_Files_state ?T ?h ?_); (case T => assumption); (case h => walk_at "hp"))
  | ((with_reducible refine' x_set_Files_kept ?T ?h ?_); (case T => assumption); (case h => walk_at "hp"))
  | ((with_reducible refine' i_set_Files_kept ?T ?h ?_); (case T => assumption); (case h => walk_at "hp"))
  | ((with_reducible refine' x_set_Files_slot ?T ?h ?_); (case T => assumption); (case h => walk_at "hp"))
  | ((with_reducible refine' i_set_Files_slot ?T ?h ?_); (case T => assumption); (case h => walk_at "hp"))
  | ((with_reducible refine' x_set_Files_turn ?T ?h ?_); (case T => assumption); (case h => walk_at "hp"))
  | ((with_reducible refine' i_set_Files_turn ?T ?h ?_); (case T => assumption); (case h => walk_at "hp"))
  | ((with_reducible refine' x_set_Files_used ?T ?h ?_); (case T => assumption); (case h => walk_at "hp"))
  | ((with_reducible refine' i_set_Files_used ?T ?h ?_); (case T => assumption); (case h => walk_at "hp"))
  | ((with_reducible refine' x_set_Files_is_new ?T ?h ?_); (case T => assumption); (case h => walk_at "hp"))
  | ((with_reducible refine' i_set_Files_is_new ?T ?h ?_); (case T => assumption); (case h => walk_at "hp")))
local macro_rules | `(tactic| walk_at "go1") => `(tactic| first
  | ((with_reducible refine w_var (v := ?vv) ?e ?_); (case e => rfl))
  | ((with_reducible walk_at "get"); (case T => assumption); (case h => walk_at "hp"))
  | (with_reducible refine x_bl ?_)
  | (with_reducible refine x_isN ?_) | (with_reducible refine x_notN ?_) | (with_reducible refine x_eqI ?_) | (with_reducible refine x_neI ?_) | (with_reducible refine x_eqS ?_) | (with_reducible refine x_neS ?_)
  | (with_reducible refine x_addI ?_) | (with_reducible refine x_subI ?_) | (with_reducible refine x_ltI ?_) | (with_reducible refine x_leI ?_) | (with_reducible refine x_gtI ?_) | (with_reducible refine x_geI ?_)
  | (with_reducible refine x_bv ?_) | (with_reducible refine x_part ?_) | (with_reducible refine x_neg ?_) | (with_reducible refine x_inS ?_)
  | (walk_at "set")
  | ((with_reducible refine' x_bmL ?h ?_); (case h => walk_at "hp")) | ((with_reducible refine' x_bmL0 ?h ?_); (case h => walk_at "hp")))
local macro_rules | `(tactic| walk_at "go") => `(tactic| ((try with_reducible (conv => whnf)); repeat ((walk_at "go1"); (try with_reducible (conv => whnf)))))
/-- is there room for a state, its snapshots and what is in use -/
def roomOk (S : St) (L : Sn) (used : List Int) (count : Nat) : Prop := manyBlocks (imgB S L).length + (used.length : Int) + 2 ≤ (count : Int)
instance (S : St) (L : Sn) (used : List Int) (count : Nat) : Decidable (roomOk S L used count) := by unfold roomOk; infer_instance
def sp_Files_become (K : PySem.W.Frag) : Sp := fun vs H Q E => ∃ (f d bl lg s kp : Addr) (ms : List Addr) (F : Fs) (B : List (Option (List Int))) (Lg : List Ent) (S : St) (L : Sn), vs = [.ref f, .ref s, .ref kp] ∧ f ∈ ms ∧ FilesAt K ms H f (.ref d) F ∧ DiskAt K H d bl lg B Lg ∧
  StateAt K (av ms H) s S ∧ SnapsAt K (av ms H) kp L ∧ Ws S ∧ Wn L ∧
  (¬ roomOk S L F.used B.length → ∀ H', Same H H' → Exn K E "NoRoom" H') ∧ (roomOk S L F.used B.length → ∀ H', Keep [f] H H' → FilesAt K ms H' f (.ref d) { F with S := S, L := L, new := true } → Q .non H')
def t_Files_become (K : PySem.W.Frag) (W : WX) : TS := uSeq (uIfS (uTest (uOp rGtI (uOp rAddI (uOp rAddI (uCallW (sp_many_blocks K) W (uCons (uCallW (sp_image K) W (uCons (tVar 1) (uCons (tVar 2) uNil))) uNil)) (uCB (cLenQ K) (uCons (uFld K (tVar 0) "used") uNil))) (uC (.int 2))) (uCB (cLenQ K) (uCons (uFld K (uFld K (tVar 0) "disk") "blocks") uNil)))) (uRaiseW W (He.ga K "NoRoom")) uNext)
    (uSeq (uFldS K (tVar 0) (tVar 1) "state")
    (uSeq (uFldS K (tVar 0) (tVar 2) "kept")
    (uFldS K (tVar 0) (uC (.bl true)) "is_new")))
theorem pure_Files_become {K : PySem.W.Frag} (TD : PxDisk K) (T : PxFiles K) {vs : List V} {H : Hp} {Q : VK} {E : XK} (h : sp_Files_become K vs H Q E) : t_Files_become K (WE1 E) (fin Q) (start ["self", "state", "snaps"] vs) H := by
  obtain ⟨f, d, bl, lg, s, kp, ms, F, B, Lg, S, L, rfl, fm, FA, D, hS, hL, w, wn, qe, qo⟩ := h
  obtain ⟨dx, s0, kp0, us, h1, h2, h3, h4⟩ := id FA.o
  obtain ⟨⟨ex, ho⟩, ⟨ws, hb, pb⟩, hlg, ne⟩ := id D
  have av := av_same ms H
  show t_Files_become K _ (fin Q) [some (.ref f), some (.ref s), some (.ref kp)] H
  unfold t_Files_become
  walk_at "go"
  refine ⟨s, kp, S, L, rfl, hS.same av, hL.same av, w, wn, fun r H1 nr hr s1 => ?_⟩
  walk_at "go"
  refine ⟨r, _, rfl, hr, fun H2 s2 => ?_⟩
  rw [List.length_map]
  have s12 := s1.trans s2
  have g1 := s12 _ _ h1
  have g4 := s12 _ _ (av _ _ h4)
  have gd := s12 _ _ ho
  have gb := s12 _ _ hb
  walk_at "go"
  refine x_lenL g4 ?_
  rw [List.length_map]
  walk_at "go"
  refine x_lenL gb ?_
  walk_at "go"
  have lw : (ws.length : Int) = (B.length : Int) := by rw [Paired.len pb]
  by_cases c : roomOk S L F.used B.length
  · refine x_ifF (decide_eq_false (by rw [lw]; unfold roomOk at c; omega)) ?_
    walk_at "go"
    have k2 : Keep [f] H2 (upd H2 f (oFiles K dx (.ref d) (.ref s) (.ref kp) (.int F.slot) (.int F.turn) (.ref us) (.bl true))) := keepUpd (by simp) g1 (fun xs z => by cases z)
    have e3 : ∀ a b c' : HO, upd (upd (upd H2 f a) f b) f c' = upd H2 f c' := fun a b c' => by
      funext x
      by_cases z : x = f
      · rw [z, upd_same, upd_same]
      · rw [upd_ne z, upd_ne z, upd_ne z, upd_ne z]
    rw [e3]
    refine qo c _ (keep_pre s12 k2) ⟨⟨dx, s, kp, us, upd_same, ?_, ?_, ?_⟩⟩
    · exact (hS.same (same_avs s12)).same (keep_av k2 (fun a ha => by rw [List.mem_singleton.mp ha]; exact fm))
    · exact (hL.same (same_avs s12)).same (keep_av k2 (fun a ha => by rw [List.mem_singleton.mp ha]; exact fm))
    · exact (keep_av k2 (fun a ha => by rw [List.mem_singleton.mp ha]; exact fm)) _ _ (same_avs s12 _ _ h4)
  · refine x_ifT (decide_eq_true (by rw [lw]; unfold roomOk at c; omega)) ?_
    walk_at "go"
    exact qe c H2 s12
end SP

set_option Elab.async false
set_option linter.all false
set_option maxRecDepth 100000
set_option maxHeartbeats 4000000
/-! Whole states; deeds: their shape, the own copy of a state, become. -/
namespace SP
open PySem PySem.Spec PyProof.Rows L2
local macro_rules | `(tactic| walk_at "hp") => `(tactic| first
  | assumption
  | exact upd_same
  | (refine' sameAt ?sA ?hA; (case sA => assumption); (case hA => walk_at "hp"))
  | (refine' Eq.trans (upd_ne ?nA) ?hA; (case nA => walk_at "ne"); (case hA => walk_at "hp")))
local macro_rules | `(tactic| walk_at "ne") => `(tactic| first
  | assumption
  | (refine' Ne.symm ?hA; assumption)
  | (refine' ne_of_none (H := _) ?hA (by assumption); walk_at "hp")
  | (refine' Ne.symm (ne_of_none (H := _) ?hA (by assumption)); walk_at "hp")
  | (refine' ne_of ?hA ?hB ?hC; (case hA => assumption); (case hB => walk_at "hp"); (case hC => (intro z; cases z))))
local macro_rules | `(tactic| walk_at "sm") => `(tactic| first
  | exact Same.refl _
  | assumption
  | (refine' sameTr ?sA ?sB; (case sA => assumption); (case sB => walk_at "sm")))
local macro_rules | `(tactic| walk_at "dm") => `(tactic| first
  | exact dmRefl
  | assumption
  | (refine' dmUpd ?dA; (case dA => walk_at "dm"))
  | (refine' dmSame ?sA ?dA; (case sA => assumption); (case dA => walk_at "dm")))
local macro_rules | `(tactic| walk_at "fr") => `(tactic| first
  | assumption
  | (refine' dmAt ?dA ?hA; (case hA => assumption); (case dA => walk_at "dm")))
local macro_rules | `(tactic| walk_at "ab") => `(tactic| (exfalso; refine absurd ?hA (noneSome ?hB); (case hB => walk_at "hp"); (case hA => assumption)))
local macro_rules | `(tactic| walk_at "kp") => `(tactic| first
  | exact Keep.refl
  | assumption
  | (refine' Keep.trans ?kA (keepUpd ?kB ?kC ?kD); (case kB => simp); (case kC => walk_at "hp"); (case kD => (intro xs z; cases z)); (case kA => walk_at "kp"))
  | (refine' keepTr ?kB ?kA; (case kB => assumption); (case kA => walk_at "kp"))
  | (refine' keepSm ?kB ?kA; (case kB => assumption); (case kA => walk_at "kp")))
local macro_rules | `(tactic| walk_at "get") => `(tactic| first
  | (refine' x_get_Files_state ?T ?h ?_) | (refine' x_get_Thing_kind ?T ?h ?_) | (refine' x_get_Thing_entries ?T ?h ?_) | (refine' x_get_Thing_held ?T ?h ?_)
  | (refine' x_get_Files_disk ?T ?h ?_) | (refine' x_get_Files_kept ?T ?h ?_) | (refine' x_get_Files_used ?T ?h ?_)
  | (refine' x_get_Disk_blocks ?T ?h ?_) | (refine' x_get_Disk_log ?T ?h ?_)
  | (refine' x_get_Reader_row ?T ?h ?_) | (refine' x_get_Reader_at ?T ?h ?_) | (refine' x_get_Reader_good ?T ?h ?_)
  | (refine' x_get_Files_slot ?T ?h ?_) | (refine' x_get_Files_turn ?T ?h ?_) | (refine' x_get_Files_is_new ?T ?h ?_))
local macro_rules | `(tactic| walk_at "set") => `(tactic| first
  | ((with_reducible refine' x_set_Disk_blocks ?T ?h ?_); (case T => assumption); (case h => walk_at "hp"))
  | ((with_reducible refine' i_set_Disk_blocks ?T ?h ?_); (case T => assumption); (case h => walk_at "hp"))
  | ((with_reducible refine' x_set_Disk_log ?T ?h ?_); (case T => assumption); (case h => walk_at "hp"))
  | ((with_reducible refine' i_set_Disk_log ?T ?h ?_); (case T => assumption); (case h => walk_at "hp"))
  | ((with_reducible refine' x_set_Thing_kind ?T ?h ?_); (case T => assumption); (case h => walk_at "hp"))
  | ((with_reducible refine' i_set_Thing_kind ?T ?h ?_); (case T => assumption); (case h => walk_at "hp"))
  | ((with_reducible refine' x_set_Thing_held ?T ?h ?_); (case T => assumption); (case h => walk_at "hp"))
  | ((with_reducible refine' i_set_Thing_held ?T ?h ?_); (case T => assumption); (case h => walk_at "hp"))
  | ((with_reducible refine' x_set_Thing_entries ?T ?h ?_); (case T => assumption); (case h => walk_at "hp"))
  | ((with_reducible refine' i_set_Thing_entries ?T ?h ?_); (case T => assumption); (case h => walk_at "hp"))
  | ((with_reducible refine' x_set_Reader_row ?T ?h ?_); (case T => assumption); (case h => walk_at "hp"))
  | ((with_reducible refine' i_set_Reader_row ?T ?h ?_); (case T => assumption); (case h => walk_at "hp"))
  | ((with_reducible refine' x_set_Reader_at ?T ?h ?_); (case T => assumption); (case h => walk_at "hp"))
  | ((with_reducible refine' i_set_Reader_at ?T ?h ?_); (case T => assumption); (case h => walk_at "hp"))
  | ((with_reducible refine' x_set_Reader_good ?T ?h ?_); (case T => assumption); (case h => walk_at "hp"))
  | ((with_reducible refine' i_set_Reader_good ?T ?h ?_); (case T => assumption); (case h => walk_at "hp"))
  | ((with_reducible refine' x_set_Files_disk ?T ?h ?_); (case T => assumption); (case h => walk_at "hp"))
  | ((with_reducible refine' i_set_Files_disk ?T ?h ?_); (case T => assumption); (case h => walk_at "hp"))
  | ((with_reducible refine' x_set_Files_state ?T ?h ?_); (case T => assumption); (case h => walk_at "hp"))
  | ((with_reducible refine' i_set_Files_state ?T ?h ?_); (case T => assumption); (case h => walk_at "hp"))
  | ((with_reducible refine' x_set_Files_kept ?T ?h ?_); (case T => assumption); (case h => walk_at "hp"))
  | ((with_reducible refine' i_set_Files_kept ?T ?h ?_); (case T => assumption); (case h => walk_at "hp"))
  | ((with_reducible refine' x_set_Files_slot ?T ?h ?_); (case T => assumption); (case h => walk_at "hp"))
  | ((with_reducible refine' i_set_Files_slot ?T ?h ?_); (case T => assumption); (case h => walk_at "hp"))
  | ((with_reducible refine' x_set_Files_turn ?T ?h ?_); (case T => assumption); (case h => walk_at "hp"))
  | ((with_reducible refine' i_set_Files_turn ?T ?h ?_); (case T => assumption); (case h => walk_at "hp"))
  | ((with_reducible refine' x_set_Files_used ?T ?h ?_); (case T => assumption); (case h => walk_at "hp"))
  | ((with_reducible refine' i_set_Files_used ?T ?h ?_); (case T => assumption); (case h => walk_at "hp"))
  | ((with_reducible refine' x_set_Files_is_new ?T ?h ?_); (case T => assumption); (case h => walk_at "hp"))
  | ((with_reducible refine' i_set_Files_is_new ?T ?h ?_); (case T => assumption); (case h => walk_at "hp")))
local macro_rules | `(tactic| walk_at "go1") => `(tactic| first
  | ((with_reducible refine w_var (v := ?vv) ?e ?_); (case e => rfl))
  | ((with_reducible walk_at "get"); (case T => assumption); (case h => walk_at "hp"))
  | (with_reducible refine x_bl ?_)
  | (with_reducible refine x_isN ?_) | (with_reducible refine x_notN ?_) | (with_reducible refine x_eqI ?_) | (with_reducible refine x_neI ?_) | (with_reducible refine x_eqS ?_) | (with_reducible refine x_neS ?_)
  | (with_reducible refine x_addI ?_) | (with_reducible refine x_subI ?_) | (with_reducible refine x_ltI ?_) | (with_reducible refine x_leI ?_) | (with_reducible refine x_gtI ?_) | (with_reducible refine x_geI ?_)
  | (with_reducible refine x_bv ?_) | (with_reducible refine x_part ?_) | (with_reducible refine x_neg ?_) | (with_reducible refine x_inS ?_)
  | (walk_at "set")
  | ((with_reducible refine' x_bmL ?h ?_); (case h => walk_at "hp")) | ((with_reducible refine' x_bmL0 ?h ?_); (case h => walk_at "hp")))
local macro_rules | `(tactic| walk_at "go") => `(tactic| ((try with_reducible (conv => whnf)); repeat ((walk_at "go1"); (try with_reducible (conv => whnf)))))
theorem name_ok {z : Str} (h : isName z = true) : PyData.strOk z = true ∧ z.length ≤ 8 := by
  unfold isName at h
  rw [Bool.and_eq_true, Bool.and_eq_true, Bool.and_eq_true] at h
  obtain ⟨⟨h1, h2⟩, h3, h4⟩ := h
  refine ⟨?_, by have := of_decide_eq_true h2; omega⟩
  have hs : ∀ c ∈ txt_SIGNS.cps.toList, c < 128 := by decide +kernel
  have h5 : ∀ c ∈ z.cps.toList, c < 128 := fun c hc => hs c (of_decide_eq_true (List.all_eq_true.mp h4 c hc))
  unfold PyData.strOk
  rw [← Array.all_toList]
  exact List.all_eq_true.mpr fun c hc => decide_eq_true (by have := h5 c hc; omega)
theorem parts_names {p : Str} {ns : List Str} (h : partsOf p = some ns) : ∀ z ∈ ns, isName z = true := by
  unfold partsOf at h
  split at h
  · cases h
    exact fun z hz => (nomatch hz)
  · split at h
    · cases h
    · split at h
      · rename_i ha
        cases h
        exact List.all_eq_true.mp ha
      · cases h
def lastOf (ns : List Str) : Str := ns.getLast?.getD ""
theorem last_mem {ns : List Str} (e0 : ns ≠ []) : lastOf ns ∈ ns := by
  unfold lastOf
  cases hg : ns.getLast? with
  | none => exact absurd (List.getLast?_eq_none_iff.mp hg) e0
  | some z => exact List.mem_of_getLast? hg
theorem atI_last {ns : List Str} (e0 : ns ≠ []) : atI (ns.map V.str) (-1) = some (.str (lastOf ns)) := by
  have hp : 0 < ns.length := List.length_pos_iff.mpr e0
  have hx : ixN (ns.map V.str).length (-1) = some (ns.length - 1) := by
    unfold ixN
    rw [if_neg (by decide), List.length_map, if_pos (by omega)]
    congr 1
    omega
  unfold atI lastOf
  rw [hx]
  show (ns.map V.str)[ns.length - 1]? = _
  rw [List.getElem?_map, ← List.getLast?_eq_getElem?]
  cases hg : ns.getLast? with
  | none => exact absurd (List.getLast?_eq_none_iff.mp hg) e0
  | some z => rfl
theorem nodup_le : ∀ {l m : List Int}, l.Nodup → (∀ x ∈ l, x ∈ m) → l.length ≤ m.length
  | [], _, _, _ => Nat.zero_le _
  | a :: l, m, nd, h => by
    obtain ⟨h1, h2⟩ := List.nodup_cons.mp nd
    have ha := h a List.mem_cons_self
    have ih := nodup_le (l := l) (m := m.erase a) h2 fun x hx => (List.mem_erase_of_ne (fun z => h1 (by rw [← z]; exact hx))).mpr (h x (List.mem_cons_of_mem _ hx))
    rw [List.length_erase_of_mem ha] at ih
    have := List.length_pos_of_mem ha
    rw [List.length_cons]
    omega
theorem pt_len_le {κ β : Type} [DecidableEq κ] (l : List (κ × β)) (k : κ) (v : β) : (pt l k v).length ≤ l.length + 1 := by
  cases e : lk l k with
  | none => rw [pt_len_new v e]; exact Nat.le_refl _
  | some u => rw [pt_len_old v e]; omega
/-! ### whole states -/
structure OkT (t : Th) : Prop where
  dh : t.dir = true → t.held = []
  fe : t.dir = false → t.ents = []
  kd : (t.ents.map (·.1)).Nodup
  el : t.ents.length ≤ 40
  hl : t.held.length ≤ 600
  nm : ∀ e ∈ t.ents, isName e.1 = true
  by_ : ∀ b ∈ t.held, 0 ≤ b ∧ b < 256
def cntT (n : Int) (t : Th) : Nat := (t.ents.map (·.2)).count n
def linksN (S : St) (n : Int) : Nat := (S.map fun x => cntT n x.2).sum
def isDir (S : St) (n : Int) : Prop := ∃ t, lk S n = some t ∧ t.dir = true
structure Whole (S : St) : Prop where
  kd : (S.map (·.1)).Nodup
  kr : ∀ x ∈ S, 0 ≤ x.1 ∧ x.1 < 32
  rt : isDir S 0
  th : ∀ x ∈ S, OkT x.2
  cl : ∀ x ∈ S, ∀ e ∈ x.2.ents, e.2 ≠ 0 ∧ (lk S e.2).isSome = true
  up : ∃ r : Int → Nat, ∀ x ∈ S, ∀ e ∈ x.2.ents, isDir S e.2 → r x.1 < r e.2
  one : ∀ n, n ≠ 0 → isDir S n → linksN S n = 1
  ref : ∀ n t, lk S n = some t → t.dir = false → 1 ≤ linksN S n
theorem Whole.clo {S : St} (w : Whole S) : Clo S := by
  obtain ⟨t, e, _⟩ := w.rt
  exact ⟨by rw [e]; rfl, fun n t e z i ei => (w.cl _ (lk_mem e) _ (lk_mem ei)).2⟩
theorem Whole.len {S : St} (w : Whole S) : S.length ≤ 32 := by
  have h := nodup_le (m := (List.range 32).map fun n : Nat => (n : Int)) w.kd fun x hx => by
    obtain ⟨y, hy, rfl⟩ := List.mem_map.mp hx
    obtain ⟨h0, h1⟩ := w.kr y hy
    exact List.mem_map.mpr ⟨y.1.toNat, List.mem_range.mpr (by omega), by omega⟩
  rw [List.length_map, List.length_map, List.length_range] at h
  exact h
theorem OkT.wt {t : Th} (w : OkT t) : Wt t := ⟨w.kd, by have := w.el; omega, by have := w.hl; omega, fun e he => by have := (name_ok (w.nm e he)).2; omega⟩
/-- a state within tighter bounds -/
structure Wg (S : St) : Prop where
  kd : (S.map (·.1)).Nodup
  sl : S.length ≤ 40
  wt : ∀ x ∈ S, Wt x.2 ∧ x.2.ents.length ≤ 45
theorem Wg.ws {S : St} (w : Wg S) : Ws S := ⟨w.kd, by have := w.sl; omega, fun x hx => (w.wt x hx).1⟩
theorem Whole.wg {S : St} (w : Whole S) : Wg S := ⟨w.kd, by have := w.len; omega, fun x hx => ⟨(w.th x hx).wt, by have := (w.th x hx).el; omega⟩⟩
theorem Whole.ok {S : St} (w : Whole S) {n : Int} {t : Th} (e : lk S n = some t) : OkT t := w.th _ (lk_mem e)
/-- snapshots -/
structure WL (L : Sn) : Prop where
  kd : (L.map (·.1)).Nodup
  ln : L.length ≤ 3
  nm : ∀ x ∈ L, isName x.1 = true
  ws : ∀ x ∈ L, Whole x.2
theorem WL.wn {L : Sn} (w : WL L) : Wn L := ⟨w.kd, by have := w.ln; omega, fun x hx => by have := (name_ok (w.nm x hx)).2; omega, fun x hx => (w.ws x hx).wg.ws⟩
/-! ### parts of states put anew -/
def entS (S : St) (pl : Int) (z : Str) (n : Int) : St := pt S pl { (lk S pl).getD thD with ents := pt ((lk S pl).getD thD).ents z n }
def dropS (S : St) (pl : Int) (z : Str) : St := pt S pl { (lk S pl).getD thD with ents := dp ((lk S pl).getD thD).ents z }
theorem getD_ok {S : St} (h : ∀ x ∈ S, Wt x.2 ∧ x.2.ents.length ≤ 45) (n : Int) : Wt ((lk S n).getD thD) ∧ ((lk S n).getD thD).ents.length ≤ 45 := by
  cases e : lk S n with
  | none => exact ⟨⟨List.nodup_nil, Nat.zero_le _, Nat.zero_le _, fun _ h => (nomatch h)⟩, Nat.zero_le _⟩
  | some t => exact h _ (lk_mem e)
theorem Wg.put {S : St} (w : Wg S) {n : Int} {t : Th} (h : Wt t) (hl : t.ents.length ≤ 45) (sl : S.length ≤ 39) : Wg (pt S n t) := ⟨nd_pt _ w.kd, by have := pt_len_le S n t; omega, fun x hx => by
  rcases mem_pt hx with rfl | ⟨hx, _⟩
  · exact ⟨h, hl⟩
  · exact w.wt x hx⟩
theorem Wg.ent {S : St} (w : Wg S) {pl n : Int} {z : Str} (hz : z.length ≤ 60) (sl : S.length ≤ 39) : Ws (entS S pl z n) := by
  have wt := getD_ok w.wt pl
  unfold entS
  refine ⟨nd_pt _ w.kd, by have := pt_len_le S pl { (lk S pl).getD thD with ents := pt ((lk S pl).getD thD).ents z n }; omega, fun x hx => ?_⟩
  rcases mem_pt hx with rfl | ⟨hx, _⟩
  · refine ⟨nd_pt _ wt.1.kd, ?_, wt.1.hl, fun e he => ?_⟩
    · refine Nat.le_trans (pt_len_le _ _ _) ?_
      have := wt.2
      omega
    · rcases mem_pt he with rfl | ⟨he, _⟩
      · exact hz
      · exact wt.1.nl e he
  · exact (w.wt x hx).1
theorem dp_len_le {κ β : Type} [DecidableEq κ] (l : List (κ × β)) (k : κ) : (dp l k).length ≤ l.length := List.length_filter_le ..
theorem Wg.drop {S : St} (w : Wg S) {pl : Int} {z : Str} (sl : S.length ≤ 39) : Wg (dropS S pl z) := by
  have wt := getD_ok w.wt pl
  unfold dropS
  exact w.put (t := { (lk S pl).getD thD with ents := dp ((lk S pl).getD thD).ents z }) ⟨nd_dp wt.1.kd, Nat.le_trans (dp_len_le _ _) wt.1.el, wt.1.hl, fun e he => wt.1.nl e (mem_dp.mp he).1⟩ (Nat.le_trans (dp_len_le _ _) wt.2) sl
theorem Wg.del {S : St} (w : Wg S) (n : Int) : Wg (dp S n) := ⟨nd_dp w.kd, Nat.le_trans (dp_len_le _ _) w.sl, fun x hx => w.wt x (mem_dp.mp hx).1⟩
/-! ### deeds -/
abbrev Dr := Except Str (Option (St × Sn) × Option Int)
def become (F : Fs) (count : Nat) (S : St) (L : Sn) (a : Option Int) : Dr := if roomOk S L F.used count then .ok (some (S, L), a) else .error "NoRoom"
def applyF (F : Fs) : Option (St × Sn) → Fs
  | none => F
  | some (S, L) => { F with S := S, L := L, new := true }
def vAns : Option Int → V
  | none => .non
  | some i => .int i
/-- what a deed at files asks and tells -/
def DeedC (K : PySem.W.Frag) (f : Addr) (H : Hp) (Q : VK) (E : XK) (D : Fs → Nat → Dr) : Prop :=
  (∃ ms F, FilesAt K ms H f .non F ∧ ∀ H', Same H H' → Exn K E "ReadOnly" H') ∨
  ∃ d bl lg ms F B Lg, f ∈ ms ∧ (∀ a ∈ ms, (H a).isSome = true) ∧ FilesAt K ms H f (.ref d) F ∧ DiskAt K H d bl lg B Lg ∧ Whole F.S ∧ WL F.L ∧
    (∀ x, D F B.length = .error x → ∀ H', Same H H' → Exn K E x H') ∧ (∀ r, D F B.length = .ok r → ∀ H', Keep [f] H H' → FilesAt K ms H' f (.ref d) (applyF F r.1) → Q (vAns r.2) H')
/-! ### an own copy of a state, and what is put in it -/
section
variable {K : PySem.W.Frag} {H H4 H5 H8 Hn : Hp} {s : Addr} {X : Xs} {n : Int} {t : Th}
/-- a new thing -/
theorem own_set {p2 a2 b2 dx : Addr} (s5 : Same H4 H5) (O : OwnAt K (nw H4 H5) s X) (s58 : Same H5 H8) (np : H5 p2 = none) (na : H5 a2 = none) (nb : H5 b2 = none)
    (hp : H8 p2 = some (oThing K dx (.str (kindS t.dir)) (.ref a2) (.ref b2))) (ha : H8 a2 = some (.lst (t.held.map V.int))) (hb : H8 b2 = some (.dK (ek t.ents))) :
    ∃ kvs, H8 s = some (.dK kvs) ∧ kvs.length = X.length ∧ OwnAt K (nw H4 (upd H8 s (.dK (putK kvs (Sum.inl n) (.ref p2))))) s (pt X n (t, b2)) ∧ Same H4 (upd H8 s (.dK (putK kvs (Sum.inl n) (.ref p2)))) := by
  have O8 : OwnAt K (nw H4 H8) s X := O.same (nw_sameR (Same.refl H4) s58)
  obtain ⟨⟨kvs2, ek2, pk2⟩, _, _, _⟩ := id O8
  obtain ⟨fs4, fs8⟩ := nw_none ek2
  refine ⟨kvs2, fs8, Paired.len pk2, ?_, updNew fs4 (s5.trans s58)⟩
  rw [nw_upd fs4]
  refine own_put O8 ek2 ⟨p2, dx, a2, rfl, nw_new (s5.free np) hp, nw_new (s5.free na) ha, nw_new (s5.free nb) hb⟩ (fun z => ?_) (fun x hx z => ?_)
  · rw [z] at nb
    obtain ⟨kv0, e0, _⟩ := O.at_
    have := (nw_none e0).2
    rw [nb] at this
    cases this
  · obtain ⟨⟨kv0, e0, p0⟩, _, _, _⟩ := O
    obtain ⟨_, _, hq⟩ := paired_mem p0 hx
    obtain ⟨_, _, _, _, _, _, h9⟩ := hq.2
    rw [z] at h9
    have := (nw_none h9).2
    rw [nb] at this
    cases this
/-- the entries of one of its things -/
theorem own_ent {el : Addr} (O : OwnAt K (nw H4 Hn) s X) (hx : lk X n = some (t, el)) (sn : Same H4 Hn) : ∃ kvs p dx hl, Hn s = some (.dK kvs) ∧ valV kvs (Sum.inl n) = some (.ref p) ∧ Hn p = some (oThing K dx (.str (kindS t.dir)) (.ref hl) (.ref el)) ∧ Hn el = some (.dK (ek t.ents)) ∧
    ∀ es, OwnAt K (nw H4 (upd Hn el (.dK (ek es)))) s (pt X n ({ t with ents := es }, el)) ∧ Same H4 (upd Hn el (.dK (ek es))) := by
  obtain ⟨⟨kvs3, ek3, pk3⟩, _, _, _⟩ := id O
  obtain ⟨v3, hv3, p3, dx4, hl3, rfl, q1, q2, q3⟩ := (kv_get (k := Sum.inl) (F := fun v (y : Th × Addr) => ThE K (nw H4 Hn) v y.2 y.1) (fun _ _ => inl_inj) (j := n) pk3).1 _ hx
  refine ⟨kvs3, p3, dx4, hl3, (nw_none ek3).2, hv3, (nw_none q1).2, (nw_none q3).2, fun es => ⟨?_, updNew (nw_none q3).1 sn⟩⟩
  rw [nw_upd (nw_none q3).1]
  exact own_ents O hx
/-- a thing leaves -/
theorem own_del (O : OwnAt K (nw H4 Hn) s X) (sn : Same H4 Hn) : ∃ kvs, Hn s = some (.dK kvs) ∧ (∀ y, lk X n = some y → ∃ v, valV kvs (Sum.inl n) = some v) ∧ OwnAt K (nw H4 (upd Hn s (.dK (dropK kvs (Sum.inl n))))) s (dp X n) ∧ Same H4 (upd Hn s (.dK (dropK kvs (Sum.inl n)))) := by
  obtain ⟨⟨kvs, e, p⟩, ns, ne, kd⟩ := id O
  obtain ⟨fs4, fsn⟩ := nw_none e
  refine ⟨kvs, fsn, fun y hy => ?_, ?_, updNew fs4 sn⟩
  · obtain ⟨v, e1, _⟩ := (kv_get (k := Sum.inl) (F := fun v (y : Th × Addr) => ThE K (nw H4 Hn) v y.2 y.1) (fun _ _ => inl_inj) (j := n) p).1 _ hy
    exact ⟨v, e1⟩
  · rw [nw_upd fs4]
    refine ⟨⟨_, upd_same, kv_drop (k := Sum.inl) (fun _ _ => inl_inj) (kv_mono (F := fun v (y : Th × Addr) => ThE K (nw H4 Hn) v y.2 y.1 ∧ y.2 ≠ s) (fun v y z => z.1.upd e z.2) (kv_and p ns))⟩, fun x hx => ns x (mem_dp.mp hx).1, fun x hx y hy => ne x (mem_dp.mp hx).1 y (mem_dp.mp hy).1, nd_dp kd⟩
theorem own_lk {S : St} (e : er X = S) (h : lk S n = some t) : ∃ el, lk X n = some (t, el) := by
  rw [← e, lk_er] at h
  obtain ⟨y, hy, rfl⟩ := Option.map_eq_some_iff.mp h
  exact ⟨y.2, hy⟩
theorem own_av {ms : List Addr} {S : St} (mS : ∀ a ∈ ms, (H a).isSome = true) (s4 : Same H H4) (O : OwnAt K (nw H4 Hn) s X) (e : er X = S) : StateAt K (av ms Hn) s S := by
  rw [← e]
  refine O.state.same (nw_avS fun a ha => ?_)
  obtain ⟨o, ho⟩ := Option.isSome_iff_exists.mp (mS a ha)
  rw [s4 _ _ ho]
  rfl
theorem become_at {f d bl lg kp : Addr} {ms : List Addr} {F : Fs} {B : List (Option (List Int))} {Lg : List Ent} {S : St} {L : Sn} {Q : VK} {E : XK} {a : Option Int} (fm : f ∈ ms) (FA : FilesAt K ms H f (.ref d) F) (D : DiskAt K H d bl lg B Lg) (sX : Same H Hn)
    (hS : StateAt K (av ms Hn) s S) (hL : SnapsAt K (av ms Hn) kp L) (w : Ws S) (wn : Wn L) (qe : become F B.length S L a = .error "NoRoom" → ∀ H', Same H H' → Exn K E "NoRoom" H')
    (qo : become F B.length S L a = .ok (some (S, L), a) → ∀ H', Keep [f] H H' → FilesAt K ms H' f (.ref d) (applyF F (some (S, L))) → Q .non H') : sp_Files_become K [.ref f, .ref s, .ref kp] Hn Q E :=
  ⟨f, d, bl, lg, s, kp, ms, F, B, Lg, S, L, rfl, fm, FA.same sX, D.same sX, hS, hL, w, wn, fun c H11 s11 => qe (by unfold become; rw [if_neg c]) _ (sX.trans s11), fun c H11 k11 FA11 => qo (by unfold become; rw [if_pos c]) _ (keep_pre sX k11) FA11⟩
end
end SP

set_option Elab.async false
set_option linter.all false
set_option maxRecDepth 100000
set_option maxHeartbeats 4000000
/-! Files.make. -/
namespace SP
open PySem PySem.Spec PyProof.Rows L2
local macro_rules | `(tactic| walk_at "hp") => `(tactic| first
  | assumption
  | exact upd_same
  | (refine' sameAt ?sA ?hA; (case sA => assumption); (case hA => walk_at "hp"))
  | (refine' Eq.trans (upd_ne ?nA) ?hA; (case nA => walk_at "ne"); (case hA => walk_at "hp")))
local macro_rules | `(tactic| walk_at "ne") => `(tactic| first
  | assumption
  | (refine' Ne.symm ?hA; assumption)
  | (refine' ne_of_none (H := _) ?hA (by assumption); walk_at "hp")
  | (refine' Ne.symm (ne_of_none (H := _) ?hA (by assumption)); walk_at "hp")
  | (refine' ne_of ?hA ?hB ?hC; (case hA => assumption); (case hB => walk_at "hp"); (case hC => (intro z; cases z))))
local macro_rules | `(tactic| walk_at "sm") => `(tactic| first
  | exact Same.refl _
  | assumption
  | (refine' sameTr ?sA ?sB; (case sA => assumption); (case sB => walk_at "sm")))
local macro_rules | `(tactic| walk_at "dm") => `(tactic| first
  | exact dmRefl
  | assumption
  | (refine' dmUpd ?dA; (case dA => walk_at "dm"))
  | (refine' dmSame ?sA ?dA; (case sA => assumption); (case dA => walk_at "dm")))
local macro_rules | `(tactic| walk_at "fr") => `(tactic| first
  | assumption
  | (refine' dmAt ?dA ?hA; (case hA => assumption); (case dA => walk_at "dm")))
local macro_rules | `(tactic| walk_at "ab") => `(tactic| (exfalso; refine absurd ?hA (noneSome ?hB); (case hB => walk_at "hp"); (case hA => assumption)))
local macro_rules | `(tactic| walk_at "kp") => `(tactic| first
  | exact Keep.refl
  | assumption
  | (refine' Keep.trans ?kA (keepUpd ?kB ?kC ?kD); (case kB => simp); (case kC => walk_at "hp"); (case kD => (intro xs z; cases z)); (case kA => walk_at "kp"))
  | (refine' keepTr ?kB ?kA; (case kB => assumption); (case kA => walk_at "kp"))
  | (refine' keepSm ?kB ?kA; (case kB => assumption); (case kA => walk_at "kp")))
local macro_rules | `(tactic| walk_at "get") => `(tactic| first
  | (refine' x_get_Files_state ?T ?h ?_) | (refine' x_get_Thing_kind ?T ?h ?_) | (refine' x_get_Thing_entries ?T ?h ?_) | (refine' x_get_Thing_held ?T ?h ?_)
  | (refine' x_get_Files_disk ?T ?h ?_) | (refine' x_get_Files_kept ?T ?h ?_) | (refine' x_get_Files_used ?T ?h ?_)
  | (refine' x_get_Disk_blocks ?T ?h ?_) | (refine' x_get_Disk_log ?T ?h ?_)
  | (refine' x_get_Reader_row ?T ?h ?_) | (refine' x_get_Reader_at ?T ?h ?_) | (refine' x_get_Reader_good ?T ?h ?_)
  | (refine' x_get_Files_slot ?T ?h ?_) | (refine' x_get_Files_turn ?T ?h ?_) | (refine' x_get_Files_is_new ?T ?h ?_))
local macro_rules | `(tactic| walk_at "set") => `(tactic| first
  | ((with_reducible refine' x_set_Disk_blocks ?T ?h ?_); (case T => assumption); (case h => walk_at "hp"))
  | ((with_reducible refine' i_set_Disk_blocks ?T ?h ?_); (case T => assumption); (case h => walk_at "hp"))
  | ((with_reducible refine' x_set_Disk_log ?T ?h ?_); (case T => assumption); (case h => walk_at "hp"))
  | ((with_reducible refine' i_set_Disk_log ?T ?h ?_); (case T => assumption); (case h => walk_at "hp"))
  | ((with_reducible refine' x_set_Thing_kind ?T ?h ?_); (case T => assumption); (case h => walk_at "hp"))
  | ((with_reducible refine' i_set_Thing_kind ?T ?h ?_); (case T => assumption); (case h => walk_at "hp"))
  | ((with_reducible refine' x_set_Thing_held ?T ?h ?_); (case T => assumption); (case h => walk_at "hp"))
  | ((with_reducible refine' i_set_Thing_held ?T ?h ?_); (case T => assumption); (case h => walk_at "hp"))
  | ((with_reducible refine' x_set_Thing_entries ?T ?h ?_); (case T => assumption); (case h => walk_at "hp"))
  | ((with_reducible refine' i_set_Thing_entries ?T ?h ?_); (case T => assumption); (case h => walk_at "hp"))
  | ((with_reducible refine' x_set_Reader_row ?T ?h ?_); (case T => assumption); (case h => walk_at "hp"))
  | ((with_reducible refine' i_set_Reader_row ?T ?h ?_); (case T => assumption); (case h => walk_at "hp"))
  | ((with_reducible refine' x_set_Reader_at ?T ?h ?_); (case T => assumption); (case h => walk_at "hp"))
  | ((with_reducible refine' i_set_Reader_at ?T ?h ?_); (case T => assumption); (case h => walk_at "hp"))
  | ((with_reducible refine' x_set_Reader_good ?T ?h ?_); (case T => assumption); (case h => walk_at "hp"))
  | ((with_reducible refine' i_set_Reader_good ?T ?h ?_); (case T => assumption); (case h => walk_at "hp"))
  | ((with_reducible refine' x_set_Files_disk ?T ?h ?_); (case T => assumption); (case h => walk_at "hp"))
  | ((with_reducible refine' i_set_Files_disk ?T ?h ?_); (case T => assumption); (case h => walk_at "hp"))
  | ((with_reducible refine' x_set_Files_state ?T ?h ?_); (case T => assumption); (case h => walk_at "hp"))
  | ((with_reducible refine' i_set_Files_state ?T ?h ?_); (case T => assumption); (case h => walk_at "hp"))
  | ((with_reducible refine' x_set_Files_kept ?T ?h ?_); (case T => assumption); (case h => walk_at "hp"))
  | ((with_reducible refine' i_set_Files_kept ?T ?h ?_); (case T => assumption); (case h => walk_at "hp"))
  | ((with_reducible refine' x_set_Files_slot ?T ?h ?_); (case T => assumption); (case h => walk_at "hp"))
  | ((with_reducible refine' i_set_Files_slot ?T ?h ?_); (case T => assumption); (case h => walk_at "hp"))
  | ((with_reducible refine' x_set_Files_turn ?T ?h ?_); (case T => assumption); (case h => walk_at "hp"))
  | ((with_reducible refine' i_set_Files_turn ?T ?h ?_); (case T => assumption); (case h => walk_at "hp"))
  | ((with_reducible refine' x_set_Files_used ?T ?h ?_); (case T => assumption); (case h => walk_at "hp"))
  | ((with_reducible refine' i_set_Files_used ?T ?h ?_); (case T => assumption); (case h => walk_at "hp"))
  | ((with_reducible refine' x_set_Files_is_new ?T ?h ?_); (case T => assumption); (case h => walk_at "hp"))
  | ((with_reducible refine' i_set_Files_is_new ?T ?h ?_); (case T => assumption); (case h => walk_at "hp")))
local macro_rules | `(tactic| walk_at "go1") => `(tactic| first
  | ((with_reducible refine w_var (v := ?vv) ?e ?_); (case e => rfl))
  | ((with_reducible walk_at "get"); (case T => assumption); (case h => walk_at "hp"))
  | (with_reducible refine x_bl ?_)
  | (with_reducible refine x_isN ?_) | (with_reducible refine x_notN ?_) | (with_reducible refine x_eqI ?_) | (with_reducible refine x_neI ?_) | (with_reducible refine x_eqS ?_) | (with_reducible refine x_neS ?_)
  | (with_reducible refine x_addI ?_) | (with_reducible refine x_subI ?_) | (with_reducible refine x_ltI ?_) | (with_reducible refine x_leI ?_) | (with_reducible refine x_gtI ?_) | (with_reducible refine x_geI ?_)
  | (with_reducible refine x_bv ?_) | (with_reducible refine x_part ?_) | (with_reducible refine x_neg ?_) | (with_reducible refine x_inS ?_)
  | (walk_at "set")
  | ((with_reducible refine' x_bmL ?h ?_); (case h => walk_at "hp")) | ((with_reducible refine' x_bmL0 ?h ?_); (case h => walk_at "hp")))
local macro_rules | `(tactic| walk_at "go") => `(tactic| ((try with_reducible (conv => whnf)); repeat ((walk_at "go1"); (try with_reducible (conv => whnf)))))
def leastFree (S : St) : Nat := ((List.range (S.length + 1)).find? fun n : Nat => (lk S (n : Int)).isNone).getD 0
theorem least_spec (S : St) : lk S ((leastFree S : Nat) : Int) = none ∧ ∀ m : Nat, m < leastFree S → (lk S (m : Int)).isSome = true := by
  unfold leastFree
  cases e : (List.range (S.length + 1)).find? fun n : Nat => (lk S (n : Int)).isNone with
  | none =>
    exfalso
    have h := List.find?_eq_none.mp e
    have hin : ∀ x ∈ (List.range (S.length + 1)).map fun n : Nat => (n : Int), x ∈ S.map (·.1) := fun x hx => by
      obtain ⟨n, hn, rfl⟩ := List.mem_map.mp hx
      have h1 := h n hn
      cases q : lk S (n : Int) with
      | none => rw [q] at h1; exact absurd rfl h1
      | some t => exact List.mem_map.mpr ⟨_, lk_mem q, rfl⟩
    have nd : ((List.range (S.length + 1)).map fun n : Nat => (n : Int)).Nodup := List.Pairwise.map _ (fun a b h z => h (by exact Int.ofNat.inj z)) List.nodup_range
    have := nodup_le nd hin
    rw [List.length_map, List.length_map, List.length_range] at this
    omega
  | some n =>
    show lk S (n : Int) = none ∧ _
    obtain ⟨h1, as, bs, h2, h3⟩ := List.find?_eq_some_iff_append.mp e
    refine ⟨Option.isNone_iff_eq_none.mp h1, fun m hm => ?_⟩
    have hm : m < n := hm
    have hn : n < S.length + 1 := by
      have : n ∈ List.range (S.length + 1) := by rw [h2]; simp
      exact List.mem_range.mp this
    have hl : as.length = n := by
      have g : (List.range (S.length + 1))[as.length]? = some n := by rw [h2]; simp
      have h5 : as.length < S.length + 1 := by
        have := (List.getElem?_eq_some_iff.mp g).1
        rwa [List.length_range] at this
      rw [List.getElem?_range h5] at g
      exact Option.some.inj g
    have g : as[m]? = some m := by
      have h6 : (List.range (S.length + 1))[m]? = some m := List.getElem?_range (by omega)
      rw [h2, List.getElem?_append_left (by omega)] at h6
      exact h6
    have := h3 m (List.mem_of_getElem? g)
    cases q : lk S (m : Int) with
    | none => rw [q] at this; exact absurd this (by decide)
    | some t => rfl
def makeS (S : St) (pl : Int) (n : Nat) (z : Str) (b : Bool) : St := entS (pt S (n : Int) ⟨b, [], []⟩) pl z (n : Int)
def makeD (F : Fs) (count : Nat) (p : Str) (b : Bool) : Dr := match partsOf p with
  | none => .error "BadName"
  | some ns => match placeFor F.S ns with
    | .error x => .error x
    | .ok pl => if leastFree F.S = 32 ∨ ((lk F.S pl).getD thD).ents.length = 40 then .error "TooGreat" else become F count (makeS F.S pl (leastFree F.S) (lastOf ns) b) F.L (some (leastFree F.S : Int))
theorem makeS_ws {S : St} {pl : Int} {n : Nat} {z : Str} {b : Bool} (w : Wg S) (hl : S.length ≤ 38) (hz : z.length ≤ 60) : Ws (makeS S pl n z b) := by
  have h2 := pt_len_le S (n : Int) (⟨b, [], []⟩ : Th)
  exact (w.put (n := (n : Int)) (t := ⟨b, [], []⟩) ⟨List.nodup_nil, Nat.zero_le _, Nat.zero_le _, fun _ h => (nomatch h)⟩ (Nat.zero_le _) (by omega)).ent hz (by omega)
theorem placeFor_in {S : St} {ns : List Str} {pl : Int} (h : placeFor S ns = .ok pl) : ns ≠ [] ∧ ∃ t, lk S pl = some t := by
  unfold placeFor at h
  split at h
  · cases h
  · rename_i e0
    refine ⟨e0, ?_⟩
    split at h
    · cases h
    · split at h
      · cases h
      · rename_i n' e' t' et'
        split at h
        · cases h
        · cases h
          exact ⟨t', et'⟩
def sp_Files_make (K : PySem.W.Frag) : Sp := fun vs H Q E => ∃ (f : Addr) (p : Str) (b : Bool), vs = [.ref f, .str p, .str (kindS b)] ∧ p.length ≤ 100000 ∧ DeedC K f H Q E fun F c => makeD F c p b
def t_Files_make (K : PySem.W.Frag) (W : WX) : TS := uSeq (uDrop (uMethW (He.ga K "Files") "may_write" (sp_Files_may_write K) W (tVar 0) uNil))
    (uSeq (uAsg (uCallW (sp_parts K) W (uCons (tVar 1) uNil)) (vName 3))
    (uSeq (uAsg (uMethW (He.ga K "Files") "place_for" (sp_Files_place_for K) W (tVar 0) (uCons (tVar 3) uNil)) (vName 4))
    (uSeq (uAsg (uCallW (sp_least_free K) W (uCons (uFld K (tVar 0) "state") uNil)) (vName 5))
    (uSeq (uIfS (uOr (uTest (uOp rEq (tVar 5) (uC (.int 32)))) (uTest (uOp rEq (uCB cLenD (uCons (uFld K (uDGet (uFld K (tVar 0) "state") (tVar 4)) "entries") uNil)) (uC (.int 40))))) (uRaiseW W (He.ga K "TooGreat")) uNext)
    (uSeq (uAsg (uCallW (sp_copied K) W (uCons (uFld K (tVar 0) "state") uNil)) (vName 6))
    (uSeq (uDPut (tVar 6) (tVar 5) (uMakeW (He.ga K "Thing") (sp_Thing___init__ K) W (uCons (tVar 2) (uCons (uLst uNil) (uCons tDNewK uNil)))))
    (uSeq (uDPut (uFld K (uDGet (tVar 6) (tVar 4)) "entries") (uOp (rIxL K) (tVar 3) (uUn rNegI (uC (.int 1)))) (tVar 5))
    (uSeq (uDrop (uMethW (He.ga K "Files") "become" (sp_Files_become K) W (tVar 0) (uCons (tVar 6) (uCons (uFld K (tVar 0) "kept") uNil))))
    (uRet (tVar 5))))))))))
theorem pure_Files_make {K : PySem.W.Frag} (TT : PxThing K) (T : PxFiles K) {vs : List V} {H : Hp} {Q : VK} {E : XK} (h : sp_Files_make K vs H Q E) : t_Files_make K (WE1 E) (fin Q) (start ["self", "path", "kind", "names", "place", "number", "state"] vs) H := by
  obtain ⟨f, p, b, rfl, hp, h⟩ := h
  show t_Files_make K _ (fin Q) [some (.ref f), some (.str p), some (.str (kindS b)), none, none, none, none] H
  unfold t_Files_make
  walk_at "go"
  rcases h with ⟨ms, F, FA, q⟩ | ⟨d, bl, lg, ms, F, B, Lg, fm, mS, FA, D, W, wN, qe, qo⟩
  · obtain ⟨dx, s0, kp0, us, h1, h2, h3, h4⟩ := id FA.o
    refine x_meth_Files_may_write h1 ?_
    walk_at "go"
    refine ⟨f, ms, .non, F, rfl, FA, ?_⟩
    rw [if_pos rfl]
    exact q
  dsimp only at qe qo
  have wn := wN.wn
  obtain ⟨dx, s0, kp0, us, h1, h2, h3, h4⟩ := id FA.o
  refine x_meth_Files_may_write h1 ?_
  walk_at "go"
  refine ⟨f, ms, .ref d, F, rfl, FA, ?_⟩
  rw [if_neg (by intro z; cases z)]
  intro H1 s1
  walk_at "go"
  refine ⟨p, rfl, hp, fun ns en a H2 na ha s2 => ?_, fun en H2 s2 => ?_⟩
  rotate_left
  · exact qe _ (by unfold makeD; rw [en]) _ (s1.trans s2)
  have s02 := s1.trans s2
  have hn := parts_names en
  have c := W.clo
  walk_at "go"
  refine x_meth_Files_place_for (s02 _ _ h1) ?_
  walk_at "go"
  refine ⟨f, a, ms, .ref d, F, ns, rfl, FA.same s02, c, ha, fun z hz => (name_ok (hn z hz)).1, ?_⟩
  have emk : makeD F B.length p b = match placeFor F.S ns with
    | .error x => .error x
    | .ok pl => if leastFree F.S = 32 ∨ ((lk F.S pl).getD thD).ents.length = 40 then .error "TooGreat" else become F B.length (makeS F.S pl (leastFree F.S) (lastOf ns) b) F.L (some (leastFree F.S : Int)) := by
    unfold makeD
    rw [en]
  cases epl : placeFor F.S ns with
  | error x =>
    intro H3 s3
    exact qe _ (by rw [emk, epl]) _ (s02.trans s3)
  | ok pl =>
    intro H3 s3
    rw [epl] at emk
    have emk : makeD F B.length p b = if leastFree F.S = 32 ∨ ((lk F.S pl).getD thD).ents.length = 40 then .error "TooGreat" else become F B.length (makeS F.S pl (leastFree F.S) (lastOf ns) b) F.L (some (leastFree F.S : Int)) := emk
    have s03 := s02.trans s3
    obtain ⟨ln, lm⟩ := least_spec F.S
    generalize leastFree F.S = n at ln lm emk
    have g1 := s03 _ _ h1
    have avs := av_same ms H
    have hS3 := (h2.same avs).same s03
    walk_at "go"
    refine ⟨s0, F.S, n, rfl, hS3, ln, lm, fun H4 s4 => ?_⟩
    have s04 := s03.trans s4
    have g4 := s04 _ _ h1
    obtain ⟨e0, t, et⟩ := placeFor_in epl
    rw [et] at emk
    have emk : makeD F B.length p b = if n = 32 ∨ t.ents.length = 40 then .error "TooGreat" else become F B.length (makeS F.S pl n (lastOf ns) b) F.L (some (n : Int)) := emk
    obtain ⟨kvs, v, hk, hv, el, pp, dx2, hl, rfl, k1, k2, k3⟩ := state_get ((h2.same avs).same s04) et
    walk_at "go"
    by_cases e32 : n = 32
    · refine x_ifT (decide_eq_true (by omega)) ?_
      walk_at "go"
      refine x_ifT rfl ?_
      walk_at "go"
      exact qe _ (by rw [emk, if_pos (.inl e32)]) _ s04
    refine x_ifF (decide_eq_false (by omega)) ?_
    walk_at "go"
    refine x_dget (.inl hk) (k := Sum.inl pl) rfl hv ?_
    walk_at "go"
    refine x_lenD k3 ?_
    rw [ek_len]
    walk_at "go"
    by_cases e40 : t.ents.length = 40
    · refine x_ifT (decide_eq_true (by omega)) ?_
      walk_at "go"
      exact qe _ (by rw [emk, if_pos (.inr e40)]) _ s04
    refine x_ifF (decide_eq_false (by omega)) ?_
    walk_at "go"
    rw [if_neg (by rintro (z | z); exact e32 z; exact e40 z)] at emk
    have wl := W.len
    refine ⟨s0, F.S, rfl, (h2.same avs).same s04, W.kd, by omega, fun s X H5 eX O s5 => ?_⟩
    have s05 := s04.trans s5
    walk_at "go"
    refine x_lst fun l H6 nl hl6 s6 => ?_
    walk_at "go"
    refine w_dnew fun e H7 ne he s7 => ?_
    walk_at "go"
    refine x_mkThing (xs := []) (SqL.of (s7 _ _ hl6)) (.inl he) fun p2 dx3 a2 b2 H8 np2 na2 nb2 s8 hp2 ha2 hb2 => ?_
    walk_at "go"
    have s57 := s6.trans s7
    have lX : X.length = F.S.length := by
      have := congrArg List.length eX
      unfold er at this
      rw [List.length_map] at this
      exact this
    obtain ⟨kvs2, fs8, lk2, O9, s9⟩ := own_set (n := (n : Int)) (t := ⟨b, [], []⟩) s5 O (s57.trans s8) (s57.free np2) (s57.free na2) (s57.free nb2) hp2 ha2 hb2
    refine x_dput fs8 (by omega) (k := Sum.inl (n : Int)) rfl ?_
    generalize upd H8 s (.dK (putK kvs2 (Sum.inl (n : Int)) (.ref p2))) = H9 at O9 s9
    have eX1 : er (pt X (n : Int) (⟨b, [], []⟩, b2)) = pt F.S (n : Int) ⟨b, [], []⟩ := by rw [er_pt, eX]
    generalize pt X (n : Int) (⟨b, [], []⟩, b2) = X1 at O9 eX1
    have hpl : lk (pt F.S (n : Int) ⟨b, [], []⟩) pl = some t := by
      rw [lk_pt, if_neg, et]
      intro z
      rw [z, ln] at et
      cases et
    obtain ⟨el1, hx1⟩ := own_lk eX1 hpl
    obtain ⟨kvs3, p3, dx4, hl3, ek3, hv3, q1', q3, put⟩ := own_ent O9 hx1 s9
    walk_at "go"
    refine x_dget (.inl ek3) (k := Sum.inl pl) rfl hv3 ?_
    walk_at "go"
    refine x_ixL (v := .str (lastOf ns)) (SqL.of (s9 _ _ (s4 _ _ (s3 _ _ ha)))) (atI_last e0) ?_
    refine x_dput q3 (by rw [ek_len]; have h := (W.ok et).el; omega) (k := Sum.inr (lastOf ns)) rfl ?_
    rw [ek_put]
    obtain ⟨O10, s10⟩ := put (pt t.ents (lastOf ns) (n : Int))
    generalize upd H9 el1 (.dK (ek (pt t.ents (lastOf ns) (n : Int)))) = H10 at O10 s10
    have eX2 : er (pt X1 pl ({ t with ents := pt t.ents (lastOf ns) (n : Int) }, el1)) = makeS F.S pl n (lastOf ns) b := by
      rw [er_pt, eX1]
      unfold makeS entS
      rw [hpl]
      rfl
    have sX := s04.trans s10
    have g10 := sX _ _ h1
    walk_at "go"
    refine x_meth_Files_become g10 ?_
    walk_at "go"
    have z60 : (lastOf ns).length ≤ 60 := by
      have := (name_ok (hn _ (last_mem e0))).2
      omega
    refine become_at (a := some (n : Int)) fm FA D sX (own_av mS s04 O10 eX2) (h3.same (same_avs sX)) (makeS_ws W.wg (by omega) z60) wn (fun e => qe _ (by rw [emk, e])) fun e H11 k11 FA11 => ?_
    walk_at "go"
    exact qo _ (by rw [emk, e]) _ k11 FA11
end SP

set_option Elab.async false
set_option linter.all false
set_option maxRecDepth 100000
set_option maxHeartbeats 4000000
/-! formatted. -/
namespace SP
open PySem PySem.Spec PyProof.Rows L2
local macro_rules | `(tactic| walk_at "hp") => `(tactic| first
  | assumption
  | exact upd_same
  | (refine' sameAt ?sA ?hA; (case sA => assumption); (case hA => walk_at "hp"))
  | (refine' Eq.trans (upd_ne ?nA) ?hA; (case nA => walk_at "ne"); (case hA => walk_at "hp")))
local macro_rules | `(tactic| walk_at "ne") => `(tactic| first
  | assumption
  | (refine' Ne.symm ?hA; assumption)
  | (refine' ne_of_none (H := _) ?hA (by assumption); walk_at "hp")
  | (refine' Ne.symm (ne_of_none (H := _) ?hA (by assumption)); walk_at "hp")
  | (refine' ne_of ?hA ?hB ?hC; (case hA => assumption); (case hB => walk_at "hp"); (case hC => (intro z; cases z))))
local macro_rules | `(tactic| walk_at "sm") => `(tactic| first
  | exact Same.refl _
  | assumption
  | (refine' sameTr ?sA ?sB; (case sA => assumption); (case sB => walk_at "sm")))
local macro_rules | `(tactic| walk_at "dm") => `(tactic| first
  | exact dmRefl
  | assumption
  | (refine' dmUpd ?dA; (case dA => walk_at "dm"))
  | (refine' dmSame ?sA ?dA; (case sA => assumption); (case dA => walk_at "dm")))
local macro_rules | `(tactic| walk_at "fr") => `(tactic| first
  | assumption
  | (refine' dmAt ?dA ?hA; (case hA => assumption); (case dA => walk_at "dm")))
local macro_rules | `(tactic| walk_at "ab") => `(tactic| (exfalso; refine absurd ?hA (noneSome ?hB); (case hB => walk_at "hp"); (case hA => assumption)))
local macro_rules | `(tactic| walk_at "kp") => `(tactic| first
  | exact Keep.refl
  | assumption
  | (refine' Keep.trans ?kA (keepUpd ?kB ?kC ?kD); (case kB => simp); (case kC => walk_at "hp"); (case kD => (intro xs z; cases z)); (case kA => walk_at "kp"))
  | (refine' keepTr ?kB ?kA; (case kB => assumption); (case kA => walk_at "kp"))
  | (refine' keepSm ?kB ?kA; (case kB => assumption); (case kA => walk_at "kp")))
local macro_rules | `(tactic| walk_at "get") => `(tactic| first
  | (refine' x_get_Files_state ?T ?h ?_) | (refine' x_get_Thing_kind ?T ?h ?_) | (refine' x_get_Thing_entries ?T ?h ?_) | (refine' x_get_Thing_held ?T ?h ?_)
  | (refine' x_get_Files_disk ?T ?h ?_) | (refine' x_get_Files_kept ?T ?h ?_) | (refine' x_get_Files_used ?T ?h ?_)
  | (refine' x_get_Disk_blocks ?T ?h ?_) | (refine' x_get_Disk_log ?T ?h ?_)
  | (refine' x_get_Reader_row ?T ?h ?_) | (refine' x_get_Reader_at ?T ?h ?_) | (refine' x_get_Reader_good ?T ?h ?_)
  | (refine' x_get_Files_slot ?T ?h ?_) | (refine' x_get_Files_turn ?T ?h ?_) | (refine' x_get_Files_is_new ?T ?h ?_))
local macro_rules | `(tactic| walk_at "set") => `(tactic| first
  | ((with_reducible refine' x_set_Disk_blocks ?T ?h ?_); (case T => assumption); (case h => walk_at "hp"))
  | ((with_reducible refine' i_set_Disk_blocks ?T ?h ?_); (case T => assumption); (case h => walk_at "hp"))
  | ((with_reducible refine' x_set_Disk_log ?T ?h ?_); (case T => assumption); (case h => walk_at "hp"))
  | ((with_reducible refine' i_set_Disk_log ?T ?h ?_); (case T => assumption); (case h => walk_at "hp"))
  | ((with_reducible refine' x_set_Thing_kind ?T ?h ?_); (case T => assumption); (case h => walk_at "hp"))
  | ((with_reducible refine' i_set_Thing_kind ?T ?h ?_); (case T => assumption); (case h => walk_at "hp"))
  | ((with_reducible refine' x_set_Thing_held ?T ?h ?_); (case T => assumption); (case h => walk_at "hp"))
  | ((with_reducible refine' i_set_Thing_held ?T ?h ?_); (case T => assumption); (case h => walk_at "hp"))
  | ((with_reducible refine' x_set_Thing_entries ?T ?h ?_); (case T => assumption); (case h => walk_at "hp"))
  | ((with_reducible refine' i_set_Thing_entries ?T ?h ?_); (case T => assumption); (case h => walk_at "hp"))
  | ((with_reducible refine' x_set_Reader_row ?T ?h ?_); (case T => assumption); (case h => walk_at "hp"))
  | ((with_reducible refine' i_set_Reader_row ?T ?h ?_); (case T => assumption); (case h => walk_at "hp"))
  | ((with_reducible refine' x_set_Reader_at ?T ?h ?_); (case T => assumption); (case h => walk_at "hp"))
  | ((with_reducible refine' i_set_Reader_at ?T ?h ?_); (case T => assumption); (case h => walk_at "hp"))
  | ((with_reducible refine' x_set_Reader_good ?T ?h ?_); (case T => assumption); (case h => walk_at "hp"))
  | ((with_reducible refine' i_set_Reader_good ?T ?h ?_); (case T => assumption); (case h => walk_at "hp"))
  | ((with_reducible refine' x_set_Files_disk ?T ?h ?_); (case T => assumption); (case h => walk_at "hp"))
  | ((with_reducible refine' i_set_Files_disk ?T ?h ?_); (case T => assumption); (case h => walk_at "hp"))
  | ((with_reducible refine' x_set_Files_state ?T ?h ?_); (case T => assumption); (case h => walk_at "hp"))
  | ((with_reducible refine' i_set_Files_state ?T ?h ?_); (case T => assumption); (case h => walk_at "hp"))
  | ((with_reducible refine' x_set_Files_kept ?T ?h ?_); (case T => assumption); (case h => walk_at "hp"))
  | ((with_reducible refine' i_set_Files_kept ?T ?h ?_); (case T => assumption); (case h => walk_at "hp"))
  | ((with_reducible refine' x_set_Files_slot ?T ?h ?_); (case T => assumption); (case h => walk_at "hp"))
  | ((with_reducible refine' i_set_Files_slot ?T ?h ?_); (case T => assumption); (case h => walk_at "hp"))
  | ((with_reducible refine' x_set_Files_turn ?T ?h ?_); (case T => assumption); (case h => walk_at "hp"))
  | ((with_reducible refine' i_set_Files_turn ?T ?h ?_); (case T => assumption); (case h => walk_at "hp"))
  | ((with_reducible refine' x_set_Files_used ?T ?h ?_); (case T => assumption); (case h => walk_at "hp"))
  | ((with_reducible refine' i_set_Files_used ?T ?h ?_); (case T => assumption); (case h => walk_at "hp"))
  | ((with_reducible refine' x_set_Files_is_new ?T ?h ?_); (case T => assumption); (case h => walk_at "hp"))
  | ((with_reducible refine' i_set_Files_is_new ?T ?h ?_); (case T => assumption); (case h => walk_at "hp")))
local macro_rules | `(tactic| walk_at "go1") => `(tactic| first
  | ((with_reducible refine w_var (v := ?vv) ?e ?_); (case e => rfl))
  | ((with_reducible walk_at "get"); (case T => assumption); (case h => walk_at "hp"))
  | (with_reducible refine x_bl ?_)
  | (with_reducible refine x_isN ?_) | (with_reducible refine x_notN ?_) | (with_reducible refine x_eqI ?_) | (with_reducible refine x_neI ?_) | (with_reducible refine x_eqS ?_) | (with_reducible refine x_neS ?_)
  | (with_reducible refine x_addI ?_) | (with_reducible refine x_subI ?_) | (with_reducible refine x_ltI ?_) | (with_reducible refine x_leI ?_) | (with_reducible refine x_gtI ?_) | (with_reducible refine x_geI ?_)
  | (with_reducible refine x_bv ?_) | (with_reducible refine x_part ?_) | (with_reducible refine x_neg ?_) | (with_reducible refine x_inS ?_)
  | (walk_at "set")
  | ((with_reducible refine' x_bmL ?h ?_); (case h => walk_at "hp")) | ((with_reducible refine' x_bmL0 ?h ?_); (case h => walk_at "hp")))
local macro_rules | `(tactic| walk_at "go") => `(tactic| ((try with_reducible (conv => whnf)); repeat ((walk_at "go1"); (try with_reducible (conv => whnf)))))
def S0 : St := [(0, ⟨true, [], []⟩)]
def row0 : List Int := imgB S0 []
def F0 : Fs := ⟨S0, [], 0, 1, [2], false⟩
def fmtB (B : List (Option (List Int))) : List (Option (List Int)) := ((setW B (chainW row0 [2] 1)).set 0 (some (rootL 1 2))).set 1 (some (padL []))
def fmtL (L : List Ent) : List Ent := L ++ logW (chainW row0 [2] 1) ++ [.wr 0 (rootL 1 2)] ++ [.wr 1 (padL [])] ++ [.bar]
theorem ws0 : Ws S0 := ⟨by decide, by decide, fun x hx => by
  rw [List.mem_singleton.mp hx]
  exact ⟨List.nodup_nil, Nat.zero_le _, Nat.zero_le _, fun _ h => (nomatch h)⟩⟩
theorem wn0 : Wn [] := ⟨List.nodup_nil, Nat.zero_le _, fun _ h => (nomatch h), fun _ h => (nomatch h)⟩
def sp_formatted (K : PySem.W.Frag) : Sp := fun vs H Q E => ∃ (d bl lg : Addr) (ms : List Addr) (B : List (Option (List Int))) (L : List Ent), vs = [.ref d] ∧ DiskAt K H d bl lg B L ∧ 3 ≤ B.length ∧ L.length ≤ 1000 ∧ bl ∈ ms ∧ lg ∈ ms ∧ (∀ a ∈ ms, (H a).isSome = true) ∧
  ∀ f H', H f = none → Keep [bl, lg] H H' → DiskAt K H' d bl lg (fmtB B) (fmtL L) → FilesAt K (f :: ms) H' f (.ref d) F0 → Q (.ref f) H'
def t_formatted (K : PySem.W.Frag) (W : WX) : TS := uSeq (uAsg (uMakeW (He.ga K "Files") (sp_Files___init__ K) W (uCons (tVar 0) (uCons (uCallW (sp_fresh K) W uNil) (uCons tDNewK uNil)))) (vName 1))
    (uSeq (uAsg (uCallW (sp_image K) W (uCons (uFld K (tVar 1) "state") (uCons (uFld K (tVar 1) "kept") uNil))) (vName 2))
    (uSeq (uDrop (uCallW (sp_write_chain K) W (uCons (tVar 0) (uCons (tVar 2) (uCons (uLst (uCons (uC (.int 2)) uNil)) uNil)))))
    (uSeq (uDrop (uCallW (sp_write_root K) W (uCons (tVar 0) (uCons (uC (.int 0)) (uCons (uC (.int 1)) (uCons (uC (.int 2)) uNil))))))
    (uSeq (uDrop (uMethW (He.ga K "Disk") "write" (sp_Disk_write K) W (tVar 0) (uCons (uC (.int 1)) (uCons (uCallW (sp_padded K) W (uCons (uLst uNil) uNil)) uNil))))
    (uSeq (uDrop (uMethW (He.ga K "Disk") "barrier" (sp_Disk_barrier K) W (tVar 0) uNil))
    (uSeq (uFldS K (tVar 1) (uLst (uCons (uC (.int 2)) uNil)) "used")
    (uRet (tVar 1))))))))
theorem pure_formatted {K : PySem.W.Frag} (TF : PxFiles K) {vs : List V} {H : Hp} {Q : VK} {E : XK} (h : sp_formatted K vs H Q E) : t_formatted K (WE1 E) (fin Q) (start ["disk", "files", "row"] vs) H := by
  obtain ⟨d, bl, lg, ms, B, L, rfl, D, hB, hL, mb, ml, mS, q⟩ := h
  show t_formatted K _ (fin Q) [some (.ref d), none, none] H
  unfold t_formatted
  walk_at "go"
  refine ⟨rfl, fun s X H1 eX O s1 => ?_⟩
  walk_at "go"
  refine w_dnew fun kp H2 nk hk s2 => ?_
  walk_at "go"
  refine x_make fun f dx H3 nf hf s3 => ?_
  refine ⟨f, dx, _, _, _, rfl, hf, fun us H4 nus k4 hf4 hus => ⟨rfl, ?_⟩⟩
  have s4 : Same H2 H4 := keepNew (fun x hx => by rw [List.mem_singleton.mp hx]; exact nf) s3 k4
  have s12 := s1.trans s2
  have s14 := s12.trans s4
  have hS4 : StateAt K (nw H H4) s S0 := by
    have := O.state
    rw [eX] at this
    exact this.same (nw_sameR (Same.refl H) (s2.trans s4))
  have hk4 : nw H H4 kp = some (.dK []) := nw_new (s1.free nk) (s4 _ _ hk)
  have hL4 : SnapsAt K (nw H H4) kp [] := ⟨[], hk4, .nil⟩
  have D4 := D.same s14
  walk_at "go"
  refine ⟨s, kp, S0, [], rfl, hS4.same (nw_same H H4), hL4.same (nw_same H H4), ws0, wn0, fun r H5 nr hr s5 => ?_⟩
  have hr : H5 r = some (.lst (row0.map V.int)) := hr
  walk_at "go"
  refine x_lst fun u H6 nu hu s6 => ?_
  walk_at "go"
  have s56 := s5.trans s6
  have nb : ∀ {a}, H a = none → a ∉ [bl, lg] := fun ha hm => by
    have : (H bl).isSome = true := mS _ mb
    have h2 : (H lg).isSome = true := mS _ ml
    rcases List.mem_cons.mp hm with e | hm
    · rw [← e, ha] at this; cases this
    · rw [← List.mem_singleton.mp hm, ha] at h2; cases h2
  refine ⟨d, bl, lg, r, u, row0, [2], B, L, rfl, D4.same s56, s6 _ _ hr, hu, nb (s14.free nr), nb ((s14.trans s5).free nu), fun n hn => ?_, by show _ + 1 ≤ _; omega, by decide, fun H7 k7 D7 => ?_⟩
  · rw [List.mem_singleton.mp hn]
    exact ⟨by decide, by show 2 < _; omega⟩
  walk_at "go"
  have lc : (chainW row0 [2] [2].length).length = 1 := rfl
  have ll : (L ++ logW (chainW row0 [2] [2].length)).length ≤ 1001 := by
    unfold logW
    rw [List.length_append, List.length_map, lc]
    omega
  refine ⟨d, bl, lg, 0, 1, 2, _, _, rfl, D7, by decide, by rw [setW_len]; show 0 < _; omega, by omega, fun H8 k8 D8 => ?_⟩
  walk_at "go"
  obtain ⟨ex8, ho8⟩ := D8.o
  refine x_meth_Disk_write ho8 ?_
  walk_at "go"
  refine x_lst fun z H9 nz hz s9 => ?_
  walk_at "go"
  refine ⟨z, [], rfl, hz, by decide, fun t H10 nt ht s10 => ?_⟩
  walk_at "go"
  refine ⟨d, bl, lg, t, 1, _, _, padL [], rfl, (D8.same s9).same s10, by decide, by rw [List.length_set, setW_len]; show 1 < _; omega, by rw [List.length_append]; show _ + 1 ≤ _; omega, ht, fun H11 k11 D11 => ?_⟩
  walk_at "go"
  obtain ⟨ex11, ho11⟩ := D11.o
  refine x_meth_Disk_barrier ho11 ?_
  walk_at "go"
  refine ⟨d, bl, lg, _, _, rfl, D11, by rw [List.length_append, List.length_append]; show _ + 1 + 1 ≤ _; omega, fun H12 k12 D12 => ?_⟩
  walk_at "go"
  refine x_lst fun us2 H13 nus2 hus2 s13 => ?_
  have ff : H f = none := s12.free nf
  have kk12 : Keep [bl, lg] H4 H12 := ((((keep_pre s56 k7).trans k8).trans (keep_pre (s9.trans s10) k11)).trans (k12.mono fun a ha => by rw [List.mem_singleton.mp ha]; simp))
  have kk : Keep [bl, lg] H4 H13 := kk12.trans (Keep.of s13)
  have hf13 := kk.k _ _ (nb ff) hf4
  walk_at "go"
  have k14 : Keep [f] H13 (upd H13 f (oFiles K dx (.ref d) (.ref s) (.ref kp) (.int 0) (.int 1) (.ref us2) (.bl false))) := keepUpd (by simp) hf13 (fun xs z => by cases z)
  have hf14 : (upd H13 f (oFiles K dx (.ref d) (.ref s) (.ref kp) (.int 0) (.int 1) (.ref us2) (.bl false))) f = some (oFiles K dx (.ref d) (.ref s) (.ref kp) (.int 0) (.int 1) (.ref us2) (.bl false)) := upd_same
  have hu14 : (upd H13 f (oFiles K dx (.ref d) (.ref s) (.ref kp) (.int 0) (.int 1) (.ref us2) (.bl false))) us2 = some (.lst ([2].map V.int)) := by
    rw [upd_ne (ne_of hus2 hf13 (by intro z; cases z))]
    exact hus2
  generalize upd H13 f (oFiles K dx (.ref d) (.ref s) (.ref kp) (.int 0) (.int 1) (.ref us2) (.bl false)) = H14 at k14 hf14 hu14
  have kA : Keep [bl, lg] H H13 := keep_pre s14 kk
  have neF : ∀ {a o}, H a = some o → a ∉ [f] := fun e hm => by
    rw [List.mem_singleton.mp hm, ff] at e
    cases e
  obtain ⟨exd, hod⟩ := id D.o
  obtain ⟨wsb, hbb, _⟩ := id D.b
  obtain ⟨wsl, hbl, _⟩ := id D.l
  have sN : Same (nw H H2) (av (f :: ms) H14) := fun a o e => by
    obtain ⟨e1, e2⟩ := nw_none e
    have nf2 : a ≠ f := fun z => by rw [z, nf] at e2; cases e2
    refine av_at (k14.k _ _ (by rw [List.mem_singleton]; exact nf2) (kk.k _ _ (nb e1) (s4 _ _ e2))) fun hm => ?_
    rcases List.mem_cons.mp hm with z | hm
    · exact nf2 z
    · have := mS a hm
      rw [e1] at this
      cases this
  refine q f H14 ff ⟨fun a o n e => k14.k _ _ (neF e) (kA.k _ _ n e), fun a xs e => k14.t _ _ (kA.t _ _ e)⟩ ((D12.same s13).keep k14 (neF hod) (neF hbb) (neF hbl)) ⟨⟨dx, s, kp, us2, hf14, ?_, ?_, ?_⟩⟩
  · have := O.state
    rw [eX] at this
    exact (this.same (nw_sameR (Same.refl H) s2)).same sN
  · exact ⟨[], sN _ _ (nw_new (s1.free nk) hk), .nil⟩
  · refine av_at hu14 fun hm => ?_
    rcases List.mem_cons.mp hm with z | hm
    · have := kk12.k _ _ (nb ff) hf4
      rw [← z, nus2] at this
      cases this
    · obtain ⟨o, ho⟩ := Option.isSome_iff_exists.mp (mS _ hm)
      by_cases c : us2 ∈ [bl, lg]
      · obtain ⟨w1, y1, _⟩ := D12.b
        obtain ⟨w2, y2, _⟩ := D12.l
        rcases List.mem_cons.mp c with z | z
        · rw [z, y1] at nus2; cases nus2
        · rw [List.mem_singleton.mp z, y2] at nus2; cases nus2
      · have := kk12.k _ _ c (s14 _ _ ho)
        rw [nus2] at this
        cases this
end SP

set_option Elab.async false
set_option linter.all false
set_option maxRecDepth 100000
set_option maxHeartbeats 4000000
/-! A text times an int; isalnum by name. -/
namespace SP
open PySem PySem.Spec PyProof.Rows L2
def rAlnum : V → List V → Hp → VK → Prop := fun x xs H Q => ∃ a, x = .str a ∧ xs = [] ∧ True ∧ Q (.bl (Txt.isalnum a)) H
theorem mt_isalnumN {X : Cx} : MtR X "str.isalnum" rAlnum := mt_isalnum
theorem x_bmS0 {K : PySem.W.Frag} {H : Hp} {Q : VK} {z : Str} {r : V → List V → Hp → VK → Prop} (q : r (.str z) [] H Q) : rBMt0 K "str" r (.str z) H Q := ⟨rfl, q⟩
def repS (z : Str) (k : Nat) : Str := ⟨(List.replicate k z.cps).foldl (· ++ ·) #[]⟩
theorem repS_size (z : Array Nat) : ∀ (k : Nat) (acc : Array Nat), ((List.replicate k z).foldl (· ++ ·) acc).size = acc.size + k * z.size
  | 0, acc => by simp
  | k + 1, acc => by
    rw [List.replicate_succ, List.foldl_cons, repS_size z k, Array.size_append, Nat.succ_mul]
    omega
def rMulS : R2 := fun x y H Q => ∃ (z : Str) (n : Int), x = .str z ∧ y = .int n ∧ 2 ≤ n ∧ n ≤ 1000 ∧ 0 < z.length ∧ z.length ≤ 1000 ∧ Q (.str (repS z n.toNat)) H
theorem op_mulStr {X : Cx} : OpR X (binaryOp .Mult) rMulS := by
  intro pins s σ H x y v u Q I rx ry h
  obtain ⟨z, n, rfl, rfl, h1, h2, h3, h4, q⟩ := h
  obtain ⟨t, rfl⟩ := rx
  obtain ⟨t', rfl⟩ := ry
  have hm : z.length * n.toNat ≤ 1000000 := Nat.le_trans (Nat.mul_le_mul h4 (show n.toNat ≤ 1000 by omega)) (by decide)
  have hf : (n == 1 || z.length == 0) = false := by
    rw [Bool.or_eq_false_iff]
    exact ⟨by rw [beq_eq_false_iff_ne]; omega, by rw [beq_eq_false_iff_ne]; omega⟩
  refine P.mul_str (by rw [decide_eq_false (by omega), decide_eq_false (by omega)]; rfl) (fun _ _ => ?_) (fun _ _ => ?_) ?_
  · have : 1000 ≤ (2 ^ 63 - 1 : Int) / n := by
      refine Int.le_ediv_of_mul_le (by omega) ?_
      omega
    omega
  · exact decide_eq_false (by rw [sizeLine_eq]; omega)
  · rw [if_neg (by omega), if_neg (by rw [hf]; decide)]
    refine ⟨?_, ⟨.str (repS z n.toNat), H, I.tok _, ⟨_, rfl⟩, q⟩⟩
    show (repS z n.toNat).cps.size ≤ sizeLine
    rw [sizeLine_eq]
    show ((List.replicate n.toNat z.cps).foldl (· ++ ·) #[]).size ≤ _
    rw [repS_size]
    have e : z.cps.size = z.length := rfl
    rw [e, Nat.mul_comm]
    show 0 + _ ≤ _
    omega
def rJoinS (K : PySem.W.Frag) : V → List V → Hp → VK → Prop := fun x xs H Q => ∃ a p, ∃ ys : List Str, x = .str a ∧ xs = [.ref p] ∧ (SqL K H p (ys.map V.str) ∨ SqT K H p (ys.map V.str)) ∧ (ys.map (·.length)).sum + ys.length * a.length ≤ 16777216 ∧ Q (.str (Txt.join a ys)) H
theorem x_join {K : PySem.W.Frag} {H : Hp} {Q : VK} {a : Str} {p : Addr} {ys : List Str} (h : H p = some (.lst (ys.map V.str))) (hl : (ys.map (·.length)).sum + ys.length * a.length ≤ 16777216) (q : Q (.str (Txt.join a ys)) H) : rJoinS K (.str a) [.ref p] H Q := ⟨a, p, ys, rfl, rfl, .inl (SqL.of h), hl, q⟩
/-- a text of a list of texts, whichever -/
theorem x_ixStr {K : PySem.W.Frag} {H : Hp} {Q : VK} {l : Addr} {xs : List Str} {j : Int} (h : H l = some (.lst (xs.map V.str))) (h0 : 0 ≤ j) (h1 : j < (xs.length : Int)) (q : ∀ z, z ∈ xs → Q (.str z) H) : rIxL K (.ref l) (.int j) H Q := by
  have hj : j.toNat < xs.length := by omega
  refine ⟨l, xs.map V.str, j, .str xs[j.toNat], rfl, rfl, SqL.of h, ?_, q _ (List.getElem_mem hj)⟩
  unfold atI ixN
  rw [if_pos h0, List.length_map, if_pos h1]
  show (xs.map V.str)[j.toNat]? = _
  rw [List.getElem?_map, List.getElem?_eq_getElem hj]
  rfl
theorem x_ixInt {K : PySem.W.Frag} {H : Hp} {Q : VK} {l : Addr} {xs : List Int} {j : Int} (h : H l = some (.lst (xs.map V.int))) (h0 : 0 ≤ j) (h1 : j < (xs.length : Int)) (q : ∀ z, z ∈ xs → Q (.int z) H) : rIxL K (.ref l) (.int j) H Q := by
  have hj : j.toNat < xs.length := by omega
  refine ⟨l, xs.map V.int, j, .int xs[j.toNat], rfl, rfl, SqL.of h, ?_, q _ (List.getElem_mem hj)⟩
  unfold atI ixN
  rw [if_pos h0, List.length_map, if_pos h1]
  show (xs.map V.int)[j.toNat]? = _
  rw [List.getElem?_map, List.getElem?_eq_getElem hj]
  rfl
theorem join_len : ∀ ys : List Str, (Txt.join "" ys).length = (ys.map (·.length)).sum
  | [] => rfl
  | [x] => by
    show x.length = x.length + 0
    rfl
  | x :: y :: r => by
    have ih := join_len (y :: r)
    rw [TL.join_eq] at ih ⊢
    show (x ++ "" ++ Str.join "" (y :: r)).length = _
    rw [List.map_cons, List.sum_cons, ← ih]
    show (x.cps ++ #[] ++ (Str.join "" (y :: r)).cps).size = _
    rw [Array.size_append, Array.append_empty]
    rfl
def rIsC (C : Addr) : List V → Hp → VK → Prop := fun xs H Q => ∃ a dx fs, xs = [.ref a, .ref C] ∧ H a = some (.ins C dx fs) ∧ Q (.bl true) H
theorem call_isCn {X : Cx} {C : Addr} (c : C8.InsC X.K C) : CallR X (.builtin "isinstance") (rIsC C) := C8.call_isC c
theorem x_isC {C a dx : Addr} {fs : List (Str × V)} {H : Hp} {Q : VK} (e : H a = some (.ins C dx fs)) (q : Q (.bl true) H) : rIsC C [.ref a, .ref C] H Q := ⟨a, dx, fs, rfl, e, q⟩
def insB (K : PySem.W.Frag) (C : Addr) : Bool :=
  decide (PySem.W.findIn K (.ref C) "__class__" = some (some (.builtin "object.__class__"))) && (decide (PySem.W.specialIn K (.builtin "object.__class__") "__get__" = some (some (.builtin "getset_descriptor.__get__"))) &&
  (decide (PySem.W.takesIn K (.builtin "object.__class__") = some true) && (decide (PySem.W.mroIn K C (.type "object") = some true) && decide (PySem.W.kitOne K (.ref C) (.ref C) = some true))))
theorem insB_ok {K : PySem.W.Frag} {C : Addr} (c : Cls K C) (h : insB K C = true) : C8.InsC K C := by
  unfold insB at h
  simp only [Bool.and_eq_true, decide_eq_true_eq] at h
  obtain ⟨h1, h2, h3, h4, h5⟩ := h
  exact ⟨c, h1, h2, h3, h4, h5⟩
end SP

set_option Elab.async false
set_option linter.all false
set_option maxRecDepth 100000
set_option maxHeartbeats 4000000
/-! How many bytes an image has. -/
namespace SP
open PySem PySem.Spec PyProof.Rows L2
theorem flat_sum {α : Type} {f : α → List Int} : ∀ l : List α, (l.flatMap f).length = (l.map fun x => (f x).length).sum
  | [] => rfl
  | x :: r => by rw [List.flatMap_cons, List.length_append, List.map_cons, List.sum_cons, flat_sum r]
theorem perm_sum {l m : List Nat} (h : l.Perm m) : l.sum = m.sum := h.sum_nat
def szT (t : Th) : Nat := if t.dir = true then 3 + (t.ents.map fun e => 2 + e.1.length).sum else 4 + t.held.length
def szS (S : St) : Nat := 1 + (S.map fun x => szT x.2).sum
def szI (S : St) (L : Sn) : Nat := 1 + szS S + (L.map fun x => 1 + x.1.length + szS x.2).sum
theorem sum_lk {κ β : Type} [DecidableEq κ] {l : List (κ × β)} (nd : (l.map (·.1)).Nodup) (f : κ → Option β → Nat) : ((l.map (·.1)).map fun k => f k (lk l k)).sum = (l.map fun x => f x.1 (some x.2)).sum := by
  rw [List.map_map]
  congr 1
  refine List.map_congr_left fun x hx => ?_
  show f x.1 (lk l x.1) = _
  rw [lk_of_mem nd hx]
theorem thingB_size {n : Int} {t : Th} (nd : (t.ents.map (·.1)).Nodup) : (thingB n t).length = szT t := by
  unfold thingB szT
  split
  · rw [List.length_append, flat_sum, perm_sum ((sortS_perm (t.ents.map (·.1))).map _)]
    have : (fun z => (entB t.ents z).length) = fun z => 2 + z.length := by
      funext z
      unfold entB
      rw [List.length_append, tbytes_len]
      show 1 + _ = _
      omega
    rw [this, List.map_map]
    rfl
  · rw [List.length_append]
    rfl
theorem stateB_size {S : St} (w : Ws S) : (stateB S).length = szS S := by
  unfold stateB szS
  rw [List.length_append, flat_sum, perm_sum ((sortZ_perm (S.map (·.1))).map _)]
  have h := sum_lk w.kd (fun n o => (thingB n (o.getD thD)).length)
  show 1 + ((S.map (·.1)).map fun n => (thingB n ((lk S n).getD thD)).length).sum = _
  rw [h]
  congr 2
  refine List.map_congr_left fun x hx => ?_
  exact thingB_size (w.wt x hx).kd
theorem imgB_size {S : St} {L : Sn} (w : Ws S) (wn : Wn L) : (imgB S L).length = szI S L := by
  unfold imgB szI
  rw [List.length_append, List.length_append, stateB_size w, flat_sum, perm_sum ((sortS_perm (L.map (·.1))).map _)]
  have h := sum_lk wn.kd (fun z o => (tbytes z ++ stateB (o.getD [])).length)
  show 1 + szS S + ((L.map (·.1)).map fun z => (tbytes z ++ stateB ((lk L z).getD [])).length).sum = _
  rw [h]
  congr 2
  refine List.map_congr_left fun x hx => ?_
  show (tbytes x.1 ++ stateB x.2).length = _
  rw [List.length_append, tbytes_len, stateB_size (wn.ws x hx)]
  omega
def room (n : Nat) (used : List Int) (count : Nat) : Bool := decide (manyBlocks n + (used.length : Int) + 2 ≤ (count : Int))
theorem roomOk_iff {S : St} {L : Sn} {used : List Int} {count : Nat} (w : Ws S) (wn : Wn L) : roomOk S L used count ↔ room (szI S L) used count = true := by
  unfold roomOk room
  rw [imgB_size w wn, decide_eq_true_eq]
/-! ### looks at written states -/
def cloB (S : St) : Bool := (lk S 0).isSome && S.all fun x => x.2.ents.all fun e => (lk S e.2).isSome
theorem cloB_ok {S : St} (h : cloB S = true) : Clo S := by
  unfold cloB at h
  obtain ⟨h1, h2⟩ := Bool.and_eq_true_iff.mp h
  refine ⟨h1, fun n t e z i ei => ?_⟩
  exact List.all_eq_true.mp (List.all_eq_true.mp h2 _ (lk_mem e)) _ (lk_mem ei)
instance : DecidableEq Th := fun a b => decidable_of_iff (a.dir = b.dir ∧ a.held = b.held ∧ a.ents = b.ents) (by
  constructor
  · rintro ⟨h1, h2, h3⟩
    cases a
    cases b
    simp only at h1 h2 h3
    rw [h1, h2, h3]
  · intro h
    rw [h]
    exact ⟨rfl, rfl, rfl⟩)
def wgB (S : St) : Bool := decide (S.map (·.1)).Nodup && (decide (S.length ≤ 40) && S.all fun x => decide (x.2.ents.map (·.1)).Nodup && (decide (x.2.ents.length ≤ 45) && (decide (x.2.held.length ≤ 1000) && x.2.ents.all fun e => decide (e.1.length ≤ 60))))
theorem wgB_ok {S : St} (h : wgB S = true) : Wg S := by
  unfold wgB at h
  simp only [Bool.and_eq_true, decide_eq_true_eq, List.all_eq_true] at h
  obtain ⟨h1, h2, h3⟩ := h
  exact ⟨h1, h2, fun x hx => ⟨⟨(h3 x hx).1, by have := (h3 x hx).2.1; omega, (h3 x hx).2.2.1, (h3 x hx).2.2.2⟩, (h3 x hx).2.1⟩⟩
/-- a thing is made -/
theorem makeD_ok {F : Fs} {count : Nat} {p : Str} {b : Bool} {ns : List Str} {pl : Int} {S : St} {n : Nat} (e1 : partsOf p = some ns) (e2 : placeFor F.S ns = .ok pl) (e3 : leastFree F.S = n) (e4 : makeS F.S pl n (lastOf ns) b = S) (h1 : n ≠ 32) (h2 : ((lk F.S pl).getD thD).ents.length ≠ 40)
    (w : Ws S) (wn : Wn F.L) (h3 : room (szI S F.L) F.used count = true) : makeD F count p b = .ok (some (S, F.L), some (n : Int)) := by
  unfold makeD
  rw [e1]
  show (match placeFor F.S ns with | .error x => _ | .ok pl => _) = _
  rw [e2]
  show (if leastFree F.S = 32 ∨ ((lk F.S pl).getD thD).ents.length = 40 then _ else _) = _
  rw [e3, if_neg (by rintro (z | z); exact h1 z; exact h2 z), e4]
  unfold become
  rw [if_pos ((roomOk_iff w wn).mpr h3)]
end SP

set_option Elab.async false
set_option linter.all false
set_option maxRecDepth 100000
set_option maxHeartbeats 4000000
/-! list(d.values()). -/
namespace SP
open PySem PySem.Spec PyProof.Rows L2
def rListVals : V → Hp → VK → Prop := fun x H Q => ∃ (d : Addr) (kvs : List (Key × V)), x = .ref d ∧ H d = some (.dK kvs) ∧ ∀ l, H l = none → Q (.ref l) (upd H l (.lst (kvs.map (·.2))))
abbrev uListVals (te : TE) : TE := fun σ H Q => te σ H fun x H1 => rListVals x H1 Q
theorem x_listVals {H : Hp} {Q : VK} {d : Addr} {kvs : List (Key × V)} (h : H d = some (.dK kvs)) (q : ∀ l H', H l = none → H' l = some (.lst (kvs.map (·.2))) → Same H H' → Q (.ref l) H') : rListVals (.ref d) H Q := ⟨d, kvs, rfl, h, x_new q⟩
theorem vals_of {R : Key × V → Key × Value → Prop} (hR : ∀ p q, R p q → RelV p.2 q.2) : ∀ {kvs : List (Key × V)} {vs : List (Key × Value)}, Paired R kvs vs → Vals (kvs.map (·.2)) (vs.map (·.2))
  | _, _, .nil => .nil
  | _, _, .cons r t => .cons (hR _ _ r) (vals_of hR t)
section
variable {X : Cx} {e : Expr} {te : TE} {p apos cpos pos : Pos}
/-- list(e.values()) -/
theorem pe_listVals (hc : X.calm = true) (he : PE X e te) (hg : Gl X "list") (hm : X.mg "list" = none) (hv : bootBuiltins "list" = some (.type "list")) (hbase : attributeBase e "values" X.env (eval e X.env) = eval e X.env := by rfl) (hline : (apos.endLine == cpos.line) = true := by rfl)
    (hs : starEach [.Call (.Attribute e "values" apos) [] [] cpos] X.env = (false, eval (.Call (.Attribute e "values" apos) [] [] cpos) X.env) :: starEach [] X.env := by rfl) :
    PE X (.Call (.Name "list" p) [.Call (.Attribute e "values" apos) [] [] cpos] [] pos) (uListVals te) := by
  refine ⟨fun pins s σ H Q I hq => ?_⟩
  refine wpAny_Call_Name_kw (ld_blt I hg hm hv ?_)
  refine PyProof.Rows.callWith_type1 ?_ hs rfl
  rw [hs]
  show wpAny _ _ (spliced ((false, eval (.Call (.Attribute e "values" apos) [] [] cpos) X.env) :: backTo pos (starEach [] X.env))) _ _ s
  refine Calls.spliced_cons ?_
  refine wpAny_Call_method (T := "dict") (id := "dict.values") hbase rfl hline F.plainAttrs_dict F.slot_dict_values F.type_dict_values (thn (he.run pins s σ H _ I hq) fun u s1 ⟨x, H1, I1, rx, d, kvs, ex, hd, q⟩ => ?_)
  subst ex
  obtain rfl : u = Value.ref d := rx
  obtain ⟨hz, hs0, vs, kv, hdo⟩ := I1.hok d _ hd
  obtain ⟨ep, hat⟩ := hdo.dictAt
  have lk : kvs.length = vs.length := Paired.length kv
  have I2 : Inv X pins σ H1 { s1 with heap := s1.heap.push { cls := .type "dict_values", data := .fields #[.ref d] } } := I1.kept (t' := s1.toks) fun b ob q => Heap.get?_push_of_some _ q
  refine ⟨hdo.typeIs, hdo.mapOf.noDict, ?_⟩
  show wpAny _ _ (callWith cpos (.builtin "dict.values") [.ref d] [] []) _ X.xe s1
  refine method_meetsIn F.slot_dict_values F.entry_dict_values rfl (PySem.evalArgs_none ⟨rfl, hdo.typeIs, F.args_dict_values_1 _, _, meets_dict_values (mixKind X.prog X.w) d hs0, ⟨vs, hdo⟩, ?_⟩)
  refine Calls.spliced_nil ?_
  refine PySem.W.kdl_call (PySem.W.kdl_values (knd := mixKind X.prog X.w) (kvs := vs) (ep := ep)) (I1.ok.hd hc) ⟨⟨_, Heap.get?_push_size _ rfl, rfl, rfl⟩, hat.push _⟩ (by omega) fun h' tk acc' c' hk hS hacc => ?_
  have ev : acc'.toList = vs.map (·.2) := PySem.W.kdl_vals_eq acc'.toList (by rw [Array.length_toList]; exact hacc.1) fun j v e => hacc.2 j v (by rw [← Array.getElem?_toList]; exact e)
  have rv : Vals (kvs.map (·.2)) acc'.toList := by
    rw [ev]
    exact vals_of (fun p q r => r.2) kv
  have new := I2.hok.fresh (Nat.le_refl _)
  refine ⟨.ref _, _, I2.laid (t' := tk) hk (Nat.le_refl _) (show ObjOk X.prog X.w _ h' _ (.lst (kvs.map (·.2))) from ⟨by rw [List.length_map]; exact hz, acc'.toList, c', rv, by rw [Array.toArray_toList]; exact hS⟩), rfl, q _ new⟩
end
end SP

set_option Elab.async false
set_option linter.all false
set_option maxRecDepth 100000
set_option maxHeartbeats 4000000
/-! Files looked at: read, stat, names, snaps. -/
namespace SP
open PySem PySem.Spec PyProof.Rows L2
local macro_rules | `(tactic| walk_at "hp") => `(tactic| first
  | assumption
  | exact upd_same
  | (refine' sameAt ?sA ?hA; (case sA => assumption); (case hA => walk_at "hp"))
  | (refine' Eq.trans (upd_ne ?nA) ?hA; (case nA => walk_at "ne"); (case hA => walk_at "hp")))
local macro_rules | `(tactic| walk_at "ne") => `(tactic| first
  | assumption
  | (refine' Ne.symm ?hA; assumption)
  | (refine' ne_of_none (H := _) ?hA (by assumption); walk_at "hp")
  | (refine' Ne.symm (ne_of_none (H := _) ?hA (by assumption)); walk_at "hp")
  | (refine' ne_of ?hA ?hB ?hC; (case hA => assumption); (case hB => walk_at "hp"); (case hC => (intro z; cases z))))
local macro_rules | `(tactic| walk_at "sm") => `(tactic| first
  | exact Same.refl _
  | assumption
  | (refine' sameTr ?sA ?sB; (case sA => assumption); (case sB => walk_at "sm")))
local macro_rules | `(tactic| walk_at "dm") => `(tactic| first
  | exact dmRefl
  | assumption
  | (refine' dmUpd ?dA; (case dA => walk_at "dm"))
  | (refine' dmSame ?sA ?dA; (case sA => assumption); (case dA => walk_at "dm")))
local macro_rules | `(tactic| walk_at "fr") => `(tactic| first
  | assumption
  | (refine' dmAt ?dA ?hA; (case hA => assumption); (case dA => walk_at "dm")))
local macro_rules | `(tactic| walk_at "ab") => `(tactic| (exfalso; refine absurd ?hA (noneSome ?hB); (case hB => walk_at "hp"); (case hA => assumption)))
local macro_rules | `(tactic| walk_at "kp") => `(tactic| first
  | exact Keep.refl
  | assumption
  | (refine' Keep.trans ?kA (keepUpd ?kB ?kC ?kD); (case kB => simp); (case kC => walk_at "hp"); (case kD => (intro xs z; cases z)); (case kA => walk_at "kp"))
  | (refine' keepTr ?kB ?kA; (case kB => assumption); (case kA => walk_at "kp"))
  | (refine' keepSm ?kB ?kA; (case kB => assumption); (case kA => walk_at "kp")))
local macro_rules | `(tactic| walk_at "get") => `(tactic| first
  | (refine' x_get_Files_state ?T ?h ?_) | (refine' x_get_Thing_kind ?T ?h ?_) | (refine' x_get_Thing_entries ?T ?h ?_) | (refine' x_get_Thing_held ?T ?h ?_)
  | (refine' x_get_Files_disk ?T ?h ?_) | (refine' x_get_Files_kept ?T ?h ?_) | (refine' x_get_Files_used ?T ?h ?_)
  | (refine' x_get_Disk_blocks ?T ?h ?_) | (refine' x_get_Disk_log ?T ?h ?_)
  | (refine' x_get_Reader_row ?T ?h ?_) | (refine' x_get_Reader_at ?T ?h ?_) | (refine' x_get_Reader_good ?T ?h ?_)
  | (refine' x_get_Files_slot ?T ?h ?_) | (refine' x_get_Files_turn ?T ?h ?_) | (refine' x_get_Files_is_new ?T ?h ?_))
local macro_rules | `(tactic| walk_at "set") => `(tactic| first
  | ((with_reducible refine' x_set_Disk_blocks ?T ?h ?_); (case T => assumption); (case h => walk_at "hp"))
  | ((with_reducible refine' i_set_Disk_blocks ?T ?h ?_); (case T => assumption); (case h => walk_at "hp"))
  | ((with_reducible refine' x_set_Disk_log ?T ?h ?_); (case T => assumption); (case h => walk_at "hp"))
  | ((with_reducible refine' i_set_Disk_log ?T ?h ?_); (case T => assumption); (case h => walk_at "hp"))
  | ((with_reducible refine' x_set_Thing_kind ?T ?h ?_); (case T => assumption); (case h => walk_at "hp"))
  | ((with_reducible refine' i_set_Thing_kind ?T ?h ?_); (case T => assumption); (case h => walk_at "hp"))
  | ((with_reducible refine' x_set_Thing_held ?T ?h ?_); (case T => assumption); (case h => walk_at "hp"))
  | ((with_reducible refine' i_set_Thing_held ?T ?h ?_); (case T => assumption); (case h => walk_at "hp"))
  | ((with_reducible refine' x_set_Thing_entries ?T ?h ?_); (case T => assumption); (case h => walk_at "hp"))
  | ((with_reducible refine' i_set_Thing_entries ?T ?h ?_); (case T => assumption); (case h => walk_at "hp"))
  | ((with_reducible refine' x_set_Reader_row ?T ?h ?_); (case T => assumption); (case h => walk_at "hp"))
  | ((with_reducible refine' i_set_Reader_row ?T ?h ?_); (case T => assumption); (case h => walk_at "hp"))
  | ((with_reducible refine' x_set_Reader_at ?T ?h ?_); (case T => assumption); (case h => walk_at "hp"))
  | ((with_reducible refine' i_set_Reader_at ?T ?h ?_); (case T => assumption); (case h => walk_at "hp"))
  | ((with_reducible refine' x_set_Reader_good ?T ?h ?_); (case T => assumption); (case h => walk_at "hp"))
  | ((with_reducible refine' i_set_Reader_good ?T ?h ?_); (case T => assumption); (case h => walk_at "hp"))
  | ((with_reducible refine' x_set_Files_disk ?T ?h ?_); (case T => assumption); (case h => walk_at "hp"))
  | ((with_reducible refine' i_set_Files_disk ?T ?h ?_); (case T => assumption); (case h => walk_at "hp"))
  | ((with_reducible refine' x_set_Files_state ?T ?h ?_); (case T => assumption); (case h => walk_at "hp"))
  | ((with_reducible refine' i_set_Files_state ?T ?h ?_); (case T => assumption); (case h => walk_at "hp"))
  | ((with_reducible refine' x_set_Files_kept ?T ?h ?_); (case T => assumption); (case h => walk_at "hp"))
  | ((with_reducible refine' i_set_Files_kept ?T ?h ?_); (case T => assumption); (case h => walk_at "hp"))
  | ((with_reducible refine' x_set_Files_slot ?T ?h ?_); (case T => assumption); (case h => walk_at "hp"))
  | ((with_reducible refine' i_set_Files_slot ?T ?h ?_); (case T => assumption); (case h => walk_at "hp"))
  | ((with_reducible refine' x_set_Files_turn ?T ?h ?_); (case T => assumption); (case h => walk_at "hp"))
  | ((with_reducible refine' i_set_Files_turn ?T ?h ?_); (case T => assumption); (case h => walk_at "hp"))
  | ((with_reducible refine' x_set_Files_used ?T ?h ?_); (case T => assumption); (case h => walk_at "hp"))
  | ((with_reducible refine' i_set_Files_used ?T ?h ?_); (case T => assumption); (case h => walk_at "hp"))
  | ((with_reducible refine' x_set_Files_is_new ?T ?h ?_); (case T => assumption); (case h => walk_at "hp"))
  | ((with_reducible refine' i_set_Files_is_new ?T ?h ?_); (case T => assumption); (case h => walk_at "hp")))
local macro_rules | `(tactic| walk_at "go1") => `(tactic| first
  | ((with_reducible refine w_var (v := ?vv) ?e ?_); (case e => rfl))
  | ((with_reducible walk_at "get"); (case T => assumption); (case h => walk_at "hp"))
  | (with_reducible refine x_bl ?_)
  | (with_reducible refine x_isN ?_) | (with_reducible refine x_notN ?_) | (with_reducible refine x_eqI ?_) | (with_reducible refine x_neI ?_) | (with_reducible refine x_eqS ?_) | (with_reducible refine x_neS ?_)
  | (with_reducible refine x_addI ?_) | (with_reducible refine x_subI ?_) | (with_reducible refine x_ltI ?_) | (with_reducible refine x_leI ?_) | (with_reducible refine x_gtI ?_) | (with_reducible refine x_geI ?_)
  | (with_reducible refine x_bv ?_) | (with_reducible refine x_part ?_) | (with_reducible refine x_neg ?_) | (with_reducible refine x_inS ?_)
  | (walk_at "set")
  | ((with_reducible refine' x_bmL ?h ?_); (case h => walk_at "hp")) | ((with_reducible refine' x_bmL0 ?h ?_); (case h => walk_at "hp")))
local macro_rules | `(tactic| walk_at "go") => `(tactic| ((try with_reducible (conv => whnf)); repeat ((walk_at "go1"); (try with_reducible (conv => whnf)))))
theorem ThAt.lock {K : PySem.W.Frag} {H : Hp} {a : Addr} {od : Obj} {kvs : List (Key × V)} {v : V} {t : Th} {k : Key × V} {n : Int} (h : ThAt K H v t) (e : H a = some (.dK kvs)) (hk : k ∈ kvs) (hn : k.1 = Sum.inl n) : ThAt K (upd H a (.frz od (.dK kvs))) v t := by
  obtain ⟨el, p, dx, hl, rfl, h1, h2, h3⟩ := h
  have ne : el ≠ a := fun z => by
    rw [z, e] at h3
    have e9 : kvs = ek t.ents := by
      have := Option.some.inj h3
      injection this
    rw [e9] at hk
    unfold ek at hk
    obtain ⟨w, _, hw⟩ := List.mem_map.mp hk
    rw [← hw] at hn
    cases hn
  refine ⟨el, p, dx, hl, rfl, ?_, ?_, ?_⟩
  · rw [upd_ne (ne_of h1 e (by intro z; cases z))]; exact h1
  · rw [upd_ne (ne_of h2 e (by intro z; cases z))]; exact h2
  · rw [upd_ne ne]; exact h3
/-! ### size_of, links_of -/
def sizeT (t : Th) : Int := if t.dir = true then 10 * (t.ents.length : Int) else (t.held.length : Int)
def sp_size_of (K : PySem.W.Frag) : Sp := fun vs H Q E => ∃ (v : V) (t : Th), vs = [v] ∧ ThAt K H v t ∧ ∀ H', Same H H' → Q (.int (sizeT t)) H'
def t_size_of (K : PySem.W.Frag) (W : WX) : TS := uSeq (uIfS (uTest (uOp rEq (uFld K (tVar 0) "kind") (uC (.str "dir")))) (uRet (uOp rMulI (uC (.int 10)) (uCB cLenD (uCons (uFld K (tVar 0) "entries") uNil)))) uNext)
    (uRet (uCB (cLenQ K) (uCons (uFld K (tVar 0) "held") uNil)))
theorem pure_size_of {K : PySem.W.Frag} (T : PxThing K) {vs : List V} {H : Hp} {Q : VK} {E : XK} (h : sp_size_of K vs H Q E) : t_size_of K (WE1 E) (fin Q) (start ["thing"] vs) H := by
  obtain ⟨v, t, rfl, ⟨el, p, dx, hl, rfl, h1, h2, h3⟩, q⟩ := h
  show t_size_of K _ (fin Q) [some (.ref p)] H
  unfold t_size_of
  walk_at "go"
  rw [kind_dir]
  unfold sizeT at q
  cases hd : t.dir with
  | true =>
    rw [hd, if_pos rfl] at q
    refine x_ifT rfl ?_
    walk_at "go"
    refine x_lenD h3 ?_
    rw [ek_len]
    refine x_mulI (.inl ⟨by decide, by decide⟩) ?_
    exact q H (Same.refl H)
  | false =>
    rw [hd, if_neg (by decide)] at q
    refine x_ifF rfl ?_
    walk_at "go"
    refine x_lenL h2 ?_
    rw [List.length_map]
    exact q H (Same.refl H)
def linksF (S : St) (n : Int) : Int := if ((lk S n).getD thD).dir = true then 1 else (linksN S n : Int)
theorem cast_sum {α : Type} (f : α → Nat) : ∀ l : List α, ((l.map fun x => ((f x : Nat) : Int)).sum) = (((l.map f).sum : Nat) : Int)
  | [] => rfl
  | x :: r => by
    rw [List.map_cons, List.sum_cons, List.map_cons, List.sum_cons, cast_sum f r]
    omega
def sp_links_of (K : PySem.W.Frag) : Sp := fun vs H Q E => ∃ (a : Addr) (S : St) (n : Int), vs = [.ref a, .int n] ∧ StateAt K H a S ∧ (lk S n).isSome = true ∧ S.length ≤ 1000 ∧ ∀ H', Same H H' → Q (.int (linksF S n)) H'
def t_links_of (K : PySem.W.Frag) (W : WX) : TS := uSeq (uIfS (uTest (uOp rEq (uFld K (uDGet (tVar 0) (tVar 1)) "kind") (uC (.str "dir")))) (uRet (uC (.int 1))) uNext)
    (uRet (uCB (rSum K) (uCons (tLockE (uLc (uVals (tVar 0)) (vName 2) tYes (uBM K "list" (rCntI K) (uListVals (uFld K (tVar 2) "entries")) (uCons (tVar 1) uNil)) [2])) uNil)))
theorem pure_links_of {K : PySem.W.Frag} (T : PxThing K) {vs : List V} {H : Hp} {Q : VK} {E : XK} (h : sp_links_of K vs H Q E) : t_links_of K (WE1 E) (fin Q) (start ["state", "number", "thing"] vs) H := by
  obtain ⟨a, S, n, rfl, hS, hn, hl, q⟩ := h
  obtain ⟨t, et⟩ := Option.isSome_iff_exists.mp hn
  obtain ⟨kvs, ha, pk⟩ := id hS
  have lkv : kvs.length = S.length := Paired.len pk
  obtain ⟨kvs', v, ha', hv, el, p, dx, hl2, rfl, h1, h2, h3⟩ := state_get hS et
  show t_links_of K _ (fin Q) [some (.ref a), some (.int n), none] H
  unfold t_links_of
  walk_at "go"
  refine x_dget (.inl ha') (k := Sum.inl n) rfl hv ?_
  walk_at "go"
  rw [kind_dir]
  unfold linksF at q
  rw [et] at q
  cases hd : t.dir with
  | true =>
    have q : ∀ H', Same H H' → Q (.int (if t.dir = true then 1 else (linksN S n : Int))) H' := q
    rw [hd, if_pos rfl] at q
    refine x_ifT rfl ?_
    walk_at "go"
    exact q H (Same.refl H)
  | false =>
    have q : ∀ H', Same H H' → Q (.int (if t.dir = true then 1 else (linksN S n : Int))) H' := q
    rw [hd, if_neg (by decide)] at q
    refine x_ifF rfl ?_
    walk_at "go"
    refine x_lockE ha fun od H1 e1 => ?_
    have l1 : H1 a = some (.frz od (.dK kvs)) := by rw [e1]; exact upd_same
    walk_at "go"
    refine x_ivls l1 ?_
    refine x_lcW walk_values (fun i acc _ => acc = (S.take i).map fun x => V.int ((cntT n x.2 : Nat) : Int)) (fun _ _ _ _ _ h => h) (fun H' s => s _ _ l1) (by omega) rfl (fun i x D H' H'' acc P P0 hi nD hD s2 hP hY k1 k2 => ?_) (fun D H' acc nD hD lA s2 hP => ?_)
    · obtain ⟨rfl, ex⟩ := hY
      have hiS : i < S.length := by omega
      obtain ⟨⟨k, v⟩, hkv, ek_, th⟩ := paired_at (i := i) pk (List.getElem?_eq_getElem hiS)
      obtain ⟨k0, ex⟩ := ex
      rw [hkv] at ex
      cases ex
      simp only at ek_ th
      have th2 := th.lock (od := od) ha (List.mem_of_getElem? hkv) ek_
      rw [← e1] at th2
      obtain ⟨el', p', dx', hl', rfl, g1, g2, g3⟩ := th2.same s2
      refine ⟨rfl, ?_⟩
      refine x_yes ?_
      refine x_ifT rfl ?_
      walk_at "go"
      refine x_listVals g3 fun l H3 nl hl3 s3 => ?_
      have hl3 : H3 l = some (.lst ((S[i].2.ents.map (·.2)).map V.int)) := by
        rw [hl3]
        unfold ek
        rw [List.map_map, List.map_map]
        rfl
      refine x_bmL hl3 ?_
      walk_at "go"
      refine ⟨l, _, n, rfl, rfl, SqL.of hl3, ?_⟩
      refine k1 _ _ s3 ?_
      subst hP
      rw [take_snoc (List.getElem?_eq_getElem hiS), List.map_append]
      rfl
    · have naD : D ≠ a := Ne.symm (ne_of_none l1 nD)
      refine ⟨s2 _ _ l1, ?_⟩
      walk_at "go"
      refine ⟨D, S.map fun x => ((cntT n x.2 : Nat) : Int), rfl, SqL.of ?_, ?_⟩
      · rw [upd_ne naD, hD, hP, lkv, List.take_length, List.map_map]
        try rfl
      · rw [cast_sum]
        rw [e1] at s2
        exact q _ (Same.unlock ha s2)
/-! ### Files.stat -/
def statF (S : St) (n : Int) : Except Str (Str × Int × Int) := match lk S n with
  | none => .error "NoThing"
  | some t => .ok (kindS t.dir, linksF S n, sizeT t)
def sp_Files_stat (K : PySem.W.Frag) : Sp := fun vs H Q E => ∃ (f : Addr) (ms : List Addr) (dv : V) (F : Fs) (n : Int), vs = [.ref f, .int n] ∧ FilesAt K ms H f dv F ∧ F.S.length ≤ 1000 ∧
  (∀ x, statF F.S n = .error x → ∀ H', Same H H' → Exn K E x H') ∧ (∀ r, statF F.S n = .ok r → ∀ p H', H p = none → H' p = some (.tup [.str r.1, .int r.2.1, .int r.2.2]) → Same H H' → Q (.ref p) H')
def t_Files_stat (K : PySem.W.Frag) (W : WX) : TS := uSeq (uIfS (uTest (uDNotIn (tVar 1) (uFld K (tVar 0) "state"))) (uRaiseW W (He.ga K "NoThing")) uNext)
    (uSeq (uAsg (uDGet (uFld K (tVar 0) "state") (tVar 1)) (vName 2))
    (uRet (uTup (uCons (uFld K (tVar 2) "kind") (uCons (uCallW (sp_links_of K) W (uCons (uFld K (tVar 0) "state") (uCons (tVar 1) uNil))) (uCons (uCallW (sp_size_of K) W (uCons (tVar 2) uNil)) uNil))))))
theorem pure_Files_stat {K : PySem.W.Frag} (TT : PxThing K) (T : PxFiles K) {vs : List V} {H : Hp} {Q : VK} {E : XK} (h : sp_Files_stat K vs H Q E) : t_Files_stat K (WE1 E) (fin Q) (start ["self", "number", "thing"] vs) H := by
  obtain ⟨f, ms, dv, F, n, rfl, ⟨dx, st, kp, us, h1, h2, h3, h4⟩, hl, qe, qo⟩ := h
  have av := av_same ms H
  have hS := h2.same av
  obtain ⟨kvs, ha, hin⟩ := state_in (n := n) hS
  show t_Files_stat K _ (fin Q) [some (.ref f), some (.int n), none] H
  unfold t_Files_stat
  walk_at "go"
  refine x_dni (.inl ha) (k := Sum.inl n) rfl hin ?_
  walk_at "go"
  cases e : lk F.S n with
  | none =>
    refine x_ifT rfl ?_
    walk_at "go"
    exact qe _ (by unfold statF; rw [e]) H (Same.refl H)
  | some t =>
    refine x_ifF rfl ?_
    walk_at "go"
    obtain ⟨kvs', v, ha', hv, th⟩ := state_get hS e
    refine x_dget (.inl ha') (k := Sum.inl n) rfl hv ?_
    obtain ⟨el, p, dx2, hl2, rfl, g1, g2, g3⟩ := id th
    walk_at "go"
    refine ⟨st, F.S, n, rfl, hS, by rw [e]; rfl, hl, fun H1 s1 => ?_⟩
    walk_at "go"
    refine ⟨_, t, rfl, th.same s1, fun H2 s2 => ?_⟩
    walk_at "go"
    refine x_tup fun p3 H3 np hp s3 => ?_
    exact qo _ (by unfold statF; rw [e]) p3 H3 ((s1.trans s2).free np) hp ((s1.trans s2).trans s3)
/-! ### Files.read -/
def cutL (xs : List Int) (start many : Int) : List Int := (xs.drop start.toNat).take many.toNat
theorem cutV_ints {xs : List Int} {start many : Int} (h0 : 0 ≤ start) (h1 : 0 ≤ many) : cutV (xs.map V.int) (some start) (some (start + many)) = (cutL xs start many).map V.int := by
  have e1 : start = ((start.toNat : Nat) : Int) := by omega
  have e2 : start + many = (((start.toNat + many.toNat) : Nat) : Int) := by omega
  rw [e2, e1, cutV_nat]
  unfold cutL
  rw [List.map_take, List.map_drop]
  congr 1
  omega
def sp_Files_read (K : PySem.W.Frag) : Sp := fun vs H Q E => ∃ (f : Addr) (ms : List Addr) (dv : V) (F : Fs) (n start many : Int), vs = [.ref f, .int n, .int start, .int many] ∧ FilesAt K ms H f dv F ∧ 0 ≤ start ∧ 0 ≤ many ∧
  (∀ x, fileAt F.S n = .error x → ∀ H', Same H H' → Exn K E x H') ∧ (∀ t, fileAt F.S n = .ok t → NewL H Q (cutL t.held start many))
def t_Files_read (K : PySem.W.Frag) (W : WX) : TS := uRet (uSl (rSlL K) (uFld K (uMethW (He.ga K "Files") "file_at" (sp_Files_file_at K) W (tVar 0) (uCons (tVar 1) uNil)) "held") (uPart (tVar 2)) (uPart (uOp rAddI (tVar 2) (tVar 3))))
theorem pure_Files_read {K : PySem.W.Frag} (T : PxThing K) {vs : List V} {H : Hp} {Q : VK} {E : XK} (h : sp_Files_read K vs H Q E) : t_Files_read K (WE1 E) (fin Q) (start ["self", "number", "start", "many"] vs) H := by
  obtain ⟨f, ms, dv, F, n, start, many, rfl, FA, h0, h1, qe, qo⟩ := h
  obtain ⟨dx, st, kp, us, ho, h2, h3, h4⟩ := id FA.o
  show t_Files_read K _ (fin Q) [some (.ref f), some (.int n), some (.int start), some (.int many)] H
  unfold t_Files_read
  walk_at "go"
  refine x_meth_Files_file_at ho ?_
  walk_at "go"
  refine ⟨f, ms, dv, F, n, rfl, FA, fun x e H1 s1 => qe x e H1 s1, fun t e v H1 s1 th => ?_⟩
  obtain ⟨el, p, dx2, hl, rfl, g1, g2, g3⟩ := (th.same (av_same ms H)).same s1
  walk_at "go"
  refine x_slL (SqL.of g2) fun l H2 nl hl2 s2 => ?_
  rw [cutV_ints h0 h1] at hl2
  exact qo t e l H2 (s1.free nl) hl2 (s1.trans s2)
/-! ### Files.names -/
def PairE (H : Hp) (v : V) (e : Str × Int) : Prop := ∃ p, v = .ref p ∧ H p = some (.tup [.str e.1, .int e.2])
theorem PairE.le {H H' : Hp} {v : V} {e : Str × Int} (s : Le H H') (h : PairE H v e) : PairE H' v e := by
  obtain ⟨p, e1, e2⟩ := h
  exact ⟨p, e1, s.tup e2⟩
def PairsAt (H : Hp) (p : Addr) (es : List (Str × Int)) : Prop := ∃ vs, H p = some (.lst vs) ∧ Paired (PairE H) vs es
theorem PairsAt.same {H H' : Hp} {p : Addr} {es : List (Str × Int)} (s : Same H H') (h : PairsAt H p es) : PairsAt H' p es := by
  obtain ⟨vs, e, q⟩ := h
  exact ⟨vs, s _ _ e, L2.Paired.mapP q fun _ _ z => z.le (Same.le s)⟩
def namesT (t : Th) : List (Str × Int) := (sortS (t.ents.map (·.1))).map fun z => (z, (lk t.ents z).getD 0)
def namesF (S : St) (n : Int) : Except Str (List (Str × Int)) := match lk S n with
  | none => .error "NoThing"
  | some t => if t.dir = true then .ok (namesT t) else .error "WrongKind"
def sp_Files_names (K : PySem.W.Frag) : Sp := fun vs H Q E => ∃ (f : Addr) (ms : List Addr) (dv : V) (F : Fs) (n : Int), vs = [.ref f, .int n] ∧ FilesAt K ms H f dv F ∧ (∀ t, lk F.S n = some t → t.ents.length < 64) ∧
  (∀ x, namesF F.S n = .error x → ∀ H', Same H H' → Exn K E x H') ∧ (∀ r, namesF F.S n = .ok r → ∀ p H', H p = none → PairsAt H' p r → Same H H' → Q (.ref p) H')
def t_Files_names (K : PySem.W.Frag) (W : WX) : TS := uSeq (uIfS (uTest (uDNotIn (tVar 1) (uFld K (tVar 0) "state"))) (uRaiseW W (He.ga K "NoThing")) uNext)
    (uSeq (uIfS (uTest (uOp rNe (uFld K (uDGet (uFld K (tVar 0) "state") (tVar 1)) "kind") (uC (.str "dir")))) (uRaiseW W (He.ga K "WrongKind")) uNext)
    (uSeq (uAsg (uFld K (uDGet (uFld K (tVar 0) "state") (tVar 1)) "entries") (vName 2))
    (uRet (uLc (jList K (uCB cSortDS (uCons (tVar 2) uNil))) (vName 3) tYes (uTup (uCons (tVar 3) (uCons (uDGet (tVar 2) (tVar 3)) uNil))) [3]))))
theorem pure_Files_names {K : PySem.W.Frag} (TT : PxThing K) (T : PxFiles K) {vs : List V} {H : Hp} {Q : VK} {E : XK} (h : sp_Files_names K vs H Q E) : t_Files_names K (WE1 E) (fin Q) (start ["self", "number", "entries", "name"] vs) H := by
  obtain ⟨f, ms, dv, F, n, rfl, ⟨dx, st, kp, us, h1, h2, h3, h4⟩, hl, qe, qo⟩ := h
  have av := av_same ms H
  have hS := h2.same av
  obtain ⟨kvs, ha, hin⟩ := state_in (n := n) hS
  show t_Files_names K _ (fin Q) [some (.ref f), some (.int n), none, none] H
  unfold t_Files_names
  walk_at "go"
  refine x_dni (.inl ha) (k := Sum.inl n) rfl hin ?_
  walk_at "go"
  cases e : lk F.S n with
  | none =>
    refine x_ifT rfl ?_
    walk_at "go"
    exact qe _ (by unfold namesF; rw [e]) H (Same.refl H)
  | some t =>
    refine x_ifF rfl ?_
    walk_at "go"
    obtain ⟨kvs', v, ha', hv, th⟩ := state_get hS e
    have hl := hl t e
    obtain ⟨el, p, dx2, hl2, rfl, g1, g2, g3⟩ := id th
    refine x_dget (.inl ha') (k := Sum.inl n) rfl hv ?_
    walk_at "go"
    rw [kind_dir]
    have en : namesF F.S n = if t.dir = true then .ok (namesT t) else .error "WrongKind" := by unfold namesF; rw [e]
    cases hd : t.dir with
    | false =>
      refine x_ifT rfl ?_
      walk_at "go"
      exact qe _ (by rw [en, if_neg (by rw [hd]; decide)]) H (Same.refl H)
    | true =>
      rw [if_pos hd] at en
      refine x_ifF rfl ?_
      walk_at "go"
      refine x_dget (.inl ha') (k := Sum.inl n) rfl hv ?_
      walk_at "go"
      refine x_sortDS (.inl g3) (ek_keys t.ents) (by rw [List.length_map]; exact hl) fun ys b H2 pm so nb hb s2 => ?_
      rw [sorted_is pm so] at hb
      clear pm so
      have hmem : ∀ z ∈ sortS (t.ents.map (·.1)), z ∈ t.ents.map (·.1) := fun z hz => (sortS_perm _).mem_iff.mp hz
      have hlen : (sortS (t.ents.map (·.1))).length = t.ents.length := by rw [(sortS_perm _).length_eq, List.length_map]
      have enT : namesT t = (sortS (t.ents.map (·.1))).map fun z => (z, (lk t.ents z).getD 0) := rfl
      generalize sortS (t.ents.map (·.1)) = zs at hb hmem hlen enT
      refine x_ilist (SqL.of hb) ?_
      refine x_lcW (walk_list (xs := zs.map V.str)) (fun i acc G => Paired (PairE G) acc ((zs.take i).map fun z => (z, (lk t.ents z).getD 0))) (fun _ _ _ _ l h => L2.Paired.mapP h fun _ _ z => z.le l) (fun H' s => SqL.of (s _ _ hb)) (by rw [List.length_map]; omega) .nil (fun i x D H' H'' acc P P0 hi nD hD s3 hP hY k1 k2 => ?_) (fun D H' acc nD hD lA s3 hP => ?_)
      · obtain ⟨rfl, hx⟩ := hY
        rw [List.getElem?_map] at hx
        obtain ⟨z, hz, rfl⟩ := Option.map_eq_some_iff.mp hx
        obtain ⟨j, hj⟩ := lk_some (hmem z (List.mem_of_getElem? hz))
        refine ⟨rfl, ?_⟩
        refine x_yes ?_
        refine x_ifT rfl ?_
        walk_at "go"
        refine x_dget (.inl ((s2.trans s3) _ _ g3)) (k := Sum.inr z) rfl (by rw [ek_get, hj]; rfl) ?_
        walk_at "go"
        refine x_tup fun p4 H4 np4 hp4 s4 => ?_
        refine k1 _ _ s4 ?_
        rw [take_snoc hz, List.map_append]
        refine Paired.snoc (L2.Paired.mapP hP fun _ _ z => z.le (Same.le (same_avs s4))) ⟨p4, rfl, av_at ?_ ?_⟩
        · rw [hp4]
          show _ = some (HO.tup [V.str z, V.int ((lk t.ents z).getD 0)])
          rw [hj]
          rfl
        · rw [List.mem_singleton]
          exact ne_of hp4 (s4 _ _ hD) (by intro z; cases z)
      · rw [List.length_map, List.take_length, ← enT] at hP
        exact qo _ en D H' (s2.free nD) ⟨acc, hD, L2.Paired.mapP hP fun _ _ z => z.le (av_le _ _)⟩ (s2.trans s3)
/-! ### Files.snaps -/
def NewS (H : Hp) (Q : VK) (xs : List Str) : Prop := ∀ p H', H p = none → H' p = some (.lst (xs.map V.str)) → Same H H' → Q (.ref p) H'
def sp_Files_snaps (K : PySem.W.Frag) : Sp := fun vs H Q E => ∃ (f : Addr) (ms : List Addr) (dv : V) (F : Fs), vs = [.ref f] ∧ FilesAt K ms H f dv F ∧ F.L.length < 64 ∧ NewS H Q (sortS (F.L.map (·.1)))
def t_Files_snaps (K : PySem.W.Frag) (W : WX) : TS := uRet (uCB cSortDS (uCons (uFld K (tVar 0) "kept") uNil))
theorem pure_Files_snaps {K : PySem.W.Frag} (T : PxFiles K) {vs : List V} {H : Hp} {Q : VK} {E : XK} (h : sp_Files_snaps K vs H Q E) : t_Files_snaps K (WE1 E) (fin Q) (start ["self"] vs) H := by
  obtain ⟨f, ms, dv, F, rfl, ⟨dx, st, kp, us, h1, h2, h3, h4⟩, hl, q⟩ := h
  obtain ⟨kvs, hk, pk⟩ := h3.same (av_same ms H)
  show t_Files_snaps K _ (fin Q) [some (.ref f)] H
  unfold t_Files_snaps
  walk_at "go"
  refine x_sortDS (.inl hk) (kv_keys pk) (by rw [List.length_map]; exact hl) fun ys b H2 pm so nb hb s2 => ?_
  rw [sorted_is pm so] at hb
  exact q b H2 nb hb s2
end SP

set_option Elab.async false
set_option linter.all false
set_option maxRecDepth 100000
set_option maxHeartbeats 4000000
/-! Files.write, cut, link. -/
namespace SP
open PySem PySem.Spec PyProof.Rows L2
local macro_rules | `(tactic| walk_at "hp") => `(tactic| first
  | assumption
  | exact upd_same
  | (refine' sameAt ?sA ?hA; (case sA => assumption); (case hA => walk_at "hp"))
  | (refine' Eq.trans (upd_ne ?nA) ?hA; (case nA => walk_at "ne"); (case hA => walk_at "hp")))
local macro_rules | `(tactic| walk_at "ne") => `(tactic| first
  | assumption
  | (refine' Ne.symm ?hA; assumption)
  | (refine' ne_of_none (H := _) ?hA (by assumption); walk_at "hp")
  | (refine' Ne.symm (ne_of_none (H := _) ?hA (by assumption)); walk_at "hp")
  | (refine' ne_of ?hA ?hB ?hC; (case hA => assumption); (case hB => walk_at "hp"); (case hC => (intro z; cases z))))
local macro_rules | `(tactic| walk_at "sm") => `(tactic| first
  | exact Same.refl _
  | assumption
  | (refine' sameTr ?sA ?sB; (case sA => assumption); (case sB => walk_at "sm")))
local macro_rules | `(tactic| walk_at "dm") => `(tactic| first
  | exact dmRefl
  | assumption
  | (refine' dmUpd ?dA; (case dA => walk_at "dm"))
  | (refine' dmSame ?sA ?dA; (case sA => assumption); (case dA => walk_at "dm")))
local macro_rules | `(tactic| walk_at "fr") => `(tactic| first
  | assumption
  | (refine' dmAt ?dA ?hA; (case hA => assumption); (case dA => walk_at "dm")))
local macro_rules | `(tactic| walk_at "ab") => `(tactic| (exfalso; refine absurd ?hA (noneSome ?hB); (case hB => walk_at "hp"); (case hA => assumption)))
local macro_rules | `(tactic| walk_at "kp") => `(tactic| first
  | exact Keep.refl
  | assumption
  | (refine' Keep.trans ?kA (keepUpd ?kB ?kC ?kD); (case kB => simp); (case kC => walk_at "hp"); (case kD => (intro xs z; cases z)); (case kA => walk_at "kp"))
  | (refine' keepTr ?kB ?kA; (case kB => assumption); (case kA => walk_at "kp"))
  | (refine' keepSm ?kB ?kA; (case kB => assumption); (case kA => walk_at "kp")))
local macro_rules | `(tactic| walk_at "get") => `(tactic| first
  | (refine' x_get_Files_state ?T ?h ?_) | (refine' x_get_Thing_kind ?T ?h ?_) | (refine' x_get_Thing_entries ?T ?h ?_) | (refine' x_get_Thing_held ?T ?h ?_)
  | (refine' x_get_Files_disk ?T ?h ?_) | (refine' x_get_Files_kept ?T ?h ?_) | (refine' x_get_Files_used ?T ?h ?_)
  | (refine' x_get_Disk_blocks ?T ?h ?_) | (refine' x_get_Disk_log ?T ?h ?_)
  | (refine' x_get_Reader_row ?T ?h ?_) | (refine' x_get_Reader_at ?T ?h ?_) | (refine' x_get_Reader_good ?T ?h ?_)
  | (refine' x_get_Files_slot ?T ?h ?_) | (refine' x_get_Files_turn ?T ?h ?_) | (refine' x_get_Files_is_new ?T ?h ?_))
local macro_rules | `(tactic| walk_at "set") => `(tactic| first
  | ((with_reducible refine' x_set_Disk_blocks ?T ?h ?_); (case T => assumption); (case h => walk_at "hp"))
  | ((with_reducible refine' i_set_Disk_blocks ?T ?h ?_); (case T => assumption); (case h => walk_at "hp"))
  | ((with_reducible refine' x_set_Disk_log ?T ?h ?_); (case T => assumption); (case h => walk_at "hp"))
  | ((with_reducible refine' i_set_Disk_log ?T ?h ?_); (case T => assumption); (case h => walk_at "hp"))
  | ((with_reducible refine' x_set_Thing_kind ?T ?h ?_); (case T => assumption); (case h => walk_at "hp"))
  | ((with_reducible refine' i_set_Thing_kind ?T ?h ?_); (case T => assumption); (case h => walk_at "hp"))
  | ((with_reducible refine' x_set_Thing_held ?T ?h ?_); (case T => assumption); (case h => walk_at "hp"))
  | ((with_reducible refine' i_set_Thing_held ?T ?h ?_); (case T => assumption); (case h => walk_at "hp"))
  | ((with_reducible refine' x_set_Thing_entries ?T ?h ?_); (case T => assumption); (case h => walk_at "hp"))
  | ((with_reducible refine' i_set_Thing_entries ?T ?h ?_); (case T => assumption); (case h => walk_at "hp"))
  | ((with_reducible refine' x_set_Reader_row ?T ?h ?_); (case T => assumption); (case h => walk_at "hp"))
  | ((with_reducible refine' i_set_Reader_row ?T ?h ?_); (case T => assumption); (case h => walk_at "hp"))
  | ((with_reducible refine' x_set_Reader_at ?T ?h ?_); (case T => assumption); (case h => walk_at "hp"))
  | ((with_reducible refine' i_set_Reader_at ?T ?h ?_); (case T => assumption); (case h => walk_at "hp"))
  | ((with_reducible refine' x_set_Reader_good ?T ?h ?_); (case T => assumption); (case h => walk_at "hp"))
  | ((with_reducible refine' i_set_Reader_good ?T ?h ?_); (case T => assumption); (case h => walk_at "hp"))
  | ((with_reducible refine' x_set_Files_disk ?T ?h ?_); (case T => assumption); (case h => walk_at "hp"))
  | ((with_reducible refine' i_set_Files_disk ?T ?h ?_); (case T => assumption); (case h => walk_at "hp"))
  | ((with_reducible refine' x_set_Files_state ?T ?h ?_); (case T => assumption); (case h => walk_at "hp"))
  | ((with_reducible refine' i_set_Files_state ?T ?h ?_); (case T => assumption); (case h => walk_at "hp"))
  | ((with_reducible refine' x_set_Files_kept ?T ?h ?_); (case T => assumption); (case h => walk_at "hp"))
  | ((with_reducible refine' i_set_Files_kept ?T ?h ?_); (case T => assumption); (case h => walk_at "hp"))
  | ((with_reducible refine' x_set_Files_slot ?T ?h ?_); (case T => assumption); (case h => walk_at "hp"))
  | ((with_reducible refine' i_set_Files_slot ?T ?h ?_); (case T => assumption); (case h => walk_at "hp"))
  | ((with_reducible refine' x_set_Files_turn ?T ?h ?_); (case T => assumption); (case h => walk_at "hp"))
  | ((with_reducible refine' i_set_Files_turn ?T ?h ?_); (case T => assumption); (case h => walk_at "hp"))
  | ((with_reducible refine' x_set_Files_used ?T ?h ?_); (case T => assumption); (case h => walk_at "hp"))
  | ((with_reducible refine' i_set_Files_used ?T ?h ?_); (case T => assumption); (case h => walk_at "hp"))
  | ((with_reducible refine' x_set_Files_is_new ?T ?h ?_); (case T => assumption); (case h => walk_at "hp"))
  | ((with_reducible refine' i_set_Files_is_new ?T ?h ?_); (case T => assumption); (case h => walk_at "hp")))
local macro_rules | `(tactic| walk_at "go1") => `(tactic| first
  | ((with_reducible refine w_var (v := ?vv) ?e ?_); (case e => rfl))
  | ((with_reducible walk_at "get"); (case T => assumption); (case h => walk_at "hp"))
  | (with_reducible refine x_bl ?_)
  | (with_reducible refine x_isN ?_) | (with_reducible refine x_notN ?_) | (with_reducible refine x_eqI ?_) | (with_reducible refine x_neI ?_) | (with_reducible refine x_eqS ?_) | (with_reducible refine x_neS ?_)
  | (with_reducible refine x_addI ?_) | (with_reducible refine x_subI ?_) | (with_reducible refine x_ltI ?_) | (with_reducible refine x_leI ?_) | (with_reducible refine x_gtI ?_) | (with_reducible refine x_geI ?_)
  | (with_reducible refine x_bv ?_) | (with_reducible refine x_part ?_) | (with_reducible refine x_neg ?_) | (with_reducible refine x_inS ?_)
  | (walk_at "set")
  | ((with_reducible refine' x_bmL ?h ?_); (case h => walk_at "hp")) | ((with_reducible refine' x_bmL0 ?h ?_); (case h => walk_at "hp")))
local macro_rules | `(tactic| walk_at "go") => `(tactic| ((try with_reducible (conv => whnf)); repeat ((walk_at "go1"); (try with_reducible (conv => whnf)))))
def wrL (held : List Int) (start : Int) (row : List Int) : List Int := (held ++ List.replicate (start - (held.length : Int)).toNat 0).take start.toNat ++ row ++ (held ++ List.replicate (start - (held.length : Int)).toNat 0).drop (start.toNat + row.length)
def ctL (held : List Int) (size : Int) : List Int := held.take size.toNat ++ List.replicate (size - (held.length : Int)).toNat 0
def heldS (S : St) (n : Int) (l : List Int) : St := pt S n ⟨false, l, []⟩
def writeD (F : Fs) (count : Nat) (n start : Int) (row : List Int) : Dr := match fileAt F.S n with
  | .error x => .error x
  | .ok t => if 600 < start + (row.length : Int) then .error "TooGreat" else if row = [] then .ok (none, some 0)
    else become F count (heldS F.S n (wrL t.held start row)) F.L (some (row.length : Int))
def cutD (F : Fs) (count : Nat) (n size : Int) : Dr := match fileAt F.S n with
  | .error x => .error x
  | .ok t => if 600 < size then .error "TooGreat" else become F count (heldS F.S n (ctL t.held size)) F.L none
theorem fileAt_in {S : St} {n : Int} {t : Th} (h : fileAt S n = .ok t) : lk S n = some t ∧ t.dir = false := by
  unfold fileAt at h
  split at h
  · cases h
  · rename_i u e
    split at h
    · cases h
    · rename_i hd
      cases h
      exact ⟨e, by simpa using hd⟩
theorem heldS_ws {S : St} (w : Wg S) {n : Int} {t : Th} (e : lk S n = some t) {l : List Int} (hl : l.length ≤ 1000) : Ws (heldS S n l) := by
  unfold heldS
  refine ⟨nd_pt _ w.kd, by rw [pt_len_old _ e]; have := w.sl; omega, fun x hx => ?_⟩
  rcases mem_pt hx with rfl | ⟨hx, _⟩
  · exact ⟨List.nodup_nil, Nat.zero_le _, hl, fun _ h => (nomatch h)⟩
  · exact (w.wt x hx).1
theorem wrL_len {held row : List Int} {start : Int} (h0 : 0 ≤ start) : (wrL held start row).length ≤ held.length + start.toNat + row.length := by
  unfold wrL
  rw [List.length_append, List.length_append, List.length_take, List.length_drop, List.length_append, List.length_replicate]
  omega
theorem cutV_to {xs : List Int} {b : Int} (h : 0 ≤ b) : cutV (xs.map V.int) none (some b) = (xs.take b.toNat).map V.int := by
  have e1 : b = ((b.toNat : Nat) : Int) := by omega
  rw [e1]
  unfold cutV
  rw [HT.sIx_none, HT.sIx_nat, List.drop_zero, Nat.sub_zero, List.map_take, Int.toNat_natCast]
  by_cases h2 : b.toNat ≤ (xs.map V.int).length
  · rw [Nat.min_eq_left h2]
  · rw [Nat.min_eq_right (by omega), List.take_of_length_le (Nat.le_refl _), List.take_of_length_le (by omega)]
theorem cutV_fromI {xs : List Int} {a : Int} (h : 0 ≤ a) : cutV (xs.map V.int) (some a) none = (xs.drop a.toNat).map V.int := by
  have e1 : a = ((a.toNat : Nat) : Int) := by omega
  rw [e1, cutV_from, List.map_drop, Int.toNat_natCast]
/-- a file's new bytes are put in an own copy of the state -/
theorem heldS_er {X : Xs} {S : St} {n : Int} {l : List Int} {b2 : Addr} (eX : er X = S) : er (pt X n (⟨false, l, []⟩, b2)) = heldS S n l := by
  unfold heldS
  rw [er_pt, eX]
theorem er_len {X : Xs} {S : St} (eX : er X = S) : X.length = S.length := by
  have := congrArg List.length eX
  unfold er at this
  rw [List.length_map] at this
  exact this
/-! ### Files.cut -/
def sp_Files_cut (K : PySem.W.Frag) : Sp := fun vs H Q E => ∃ (f : Addr) (n size : Int), vs = [.ref f, .int n, .int size] ∧ 0 ≤ size ∧ DeedC K f H Q E fun F c => cutD F c n size
def t_Files_cut (K : PySem.W.Frag) (W : WX) : TS := uSeq (uDrop (uMethW (He.ga K "Files") "may_write" (sp_Files_may_write K) W (tVar 0) uNil))
    (uSeq (uAsg (uFld K (uMethW (He.ga K "Files") "file_at" (sp_Files_file_at K) W (tVar 0) (uCons (tVar 1) uNil)) "held") (vName 3))
    (uSeq (uIfS (uTest (uOp rGtI (tVar 2) (uC (.int 600)))) (uRaiseW W (He.ga K "TooGreat")) uNext)
    (uSeq (uAsg (uCallW (sp_copied K) W (uCons (uFld K (tVar 0) "state") uNil)) (vName 4))
    (uSeq (uDPut (tVar 4) (tVar 1) (uMakeW (He.ga K "Thing") (sp_Thing___init__ K) W (uCons (uC (.str "file")) (uCons (uOp rCat (uSl (rSlL K) (tVar 3) uNoPart (uPart (tVar 2))) (uOp rRep (uLst (uCons (uC (.int 0)) uNil)) (uOp rSubI (tVar 2) (uCB (cLenQ K) (uCons (tVar 3) uNil))))) (uCons tDNewK uNil)))))
    (uDrop (uMethW (He.ga K "Files") "become" (sp_Files_become K) W (tVar 0) (uCons (tVar 4) (uCons (uFld K (tVar 0) "kept") uNil))))))))
theorem pure_Files_cut {K : PySem.W.Frag} (TT : PxThing K) (T : PxFiles K) {vs : List V} {H : Hp} {Q : VK} {E : XK} (h : sp_Files_cut K vs H Q E) : t_Files_cut K (WE1 E) (fin Q) (start ["self", "number", "size", "old", "state"] vs) H := by
  obtain ⟨f, n, size, rfl, h0, h⟩ := h
  show t_Files_cut K _ (fin Q) [some (.ref f), some (.int n), some (.int size), none, none] H
  unfold t_Files_cut
  walk_at "go"
  rcases h with ⟨ms, F, FA, q⟩ | ⟨d, bl, lg, ms, F, B, Lg, fm, mS, FA, D, W, wN, qe, qo⟩
  · obtain ⟨dx, s0, kp0, us, h1, h2, h3, h4⟩ := id FA.o
    refine x_meth_Files_may_write h1 ?_
    walk_at "go"
    refine ⟨f, ms, .non, F, rfl, FA, ?_⟩
    rw [if_pos rfl]
    exact q
  dsimp only at qe qo
  have wn := wN.wn
  obtain ⟨dx, s0, kp0, us, h1, h2, h3, h4⟩ := id FA.o
  refine x_meth_Files_may_write h1 ?_
  walk_at "go"
  refine ⟨f, ms, .ref d, F, rfl, FA, ?_⟩
  rw [if_neg (by intro z; cases z)]
  intro H1 s1
  have g1 := s1 _ _ h1
  walk_at "go"
  refine x_meth_Files_file_at g1 ?_
  walk_at "go"
  refine ⟨f, ms, .ref d, F, n, rfl, FA.same s1, fun x e H2 s2 => qe x (by unfold cutD; rw [e]) _ (s1.trans s2), fun t e v H2 s2 th => ?_⟩
  have em : cutD F B.length n size = if 600 < size then .error "TooGreat" else become F B.length (heldS F.S n (ctL t.held size)) F.L none := by unfold cutD; rw [e]
  obtain ⟨et, hd⟩ := fileAt_in e
  obtain ⟨el, p, dx2, hl, rfl, g2, g3, g4⟩ := (th.same (av_same ms H1)).same s2
  have s02 := s1.trans s2
  walk_at "go"
  by_cases c : 600 < size
  · refine x_ifT (decide_eq_true c) ?_
    walk_at "go"
    exact qe _ (by rw [em, if_pos c]) _ s02
  refine x_ifF (decide_eq_false c) ?_
  rw [if_neg c] at em
  have g1 := s02 _ _ h1
  have avs := av_same ms H
  have wl := W.len
  walk_at "go"
  refine ⟨s0, F.S, rfl, (h2.same avs).same s02, W.kd, by omega, fun s X H5 eX O s5 => ?_⟩
  have s05 := s02.trans s5
  walk_at "go"
  refine x_slL (SqL.of (s5 _ _ g3)) fun l1 H6 n6 h6 s6 => ?_
  rw [cutV_to h0] at h6
  walk_at "go"
  refine x_lst fun l2 H7 n7 h7 s7 => ?_
  walk_at "go"
  refine x_lenL (s7 _ _ (s6 _ _ (s5 _ _ g3))) ?_
  rw [List.length_map]
  walk_at "go"
  have hh := (W.ok et).hl
  refine x_rep h7 (by omega) (by omega) (by rw [sizeLine_eq]; show 1 * _ ≤ _; omega) fun l3 H8 n8 h8 s8 => ?_
  have e0 : (List.replicate (size - (t.held.length : Int)).toNat [V.int 0]).flatten = (List.replicate (size - (t.held.length : Int)).toNat (0 : Int)).map V.int := by
    rw [flat_one, List.map_replicate]
  rw [e0] at h8
  refine x_cat (s8 _ _ (s7 _ _ h6)) h8 (by rw [sizeLine_eq, List.length_map, List.length_map, List.length_replicate, List.length_take]; omega) fun l4 H9 n9 h9 s9 => ?_
  rw [← List.map_append] at h9
  have h9 : H9 l4 = some (.lst ((ctL t.held size).map V.int)) := h9
  walk_at "go"
  refine w_dnew fun e' H10 n10 h10 s10 => ?_
  walk_at "go"
  refine x_mkThing (SqL.of (s10 _ _ h9)) (.inl h10) fun p2 dx3 a2 b2 H11 np2 na2 nb2 s11 hp2 ha2 hb2 => ?_
  walk_at "go"
  have s5a := ((((s6.trans s7).trans s8).trans s9).trans s10)
  have lX := er_len eX
  obtain ⟨kvs2, fs8, lk2, O9, s9'⟩ := own_set (n := n) (t := ⟨false, ctL t.held size, []⟩) s5 O (s5a.trans s11) (s5a.free np2) (s5a.free na2) (s5a.free nb2) hp2 ha2 hb2
  refine x_dput fs8 (by omega) (k := Sum.inl n) rfl ?_
  generalize upd H11 s (.dK (putK kvs2 (Sum.inl n) (.ref p2))) = H12 at O9 s9'
  have sX := s02.trans s9'
  have g12 := sX _ _ h1
  walk_at "go"
  refine x_meth_Files_become g12 ?_
  walk_at "go"
  have hcl : (ctL t.held size).length ≤ 1000 := by
    unfold ctL
    rw [List.length_append, List.length_take, List.length_replicate]
    omega
  refine become_at (a := none) fm FA D sX (own_av mS s02 O9 (heldS_er eX)) (h3.same (same_avs sX)) (heldS_ws W.wg et hcl) wn (fun e => qe _ (by rw [em, e])) fun e H11 k11 FA11 => ?_
  walk_at "go"
  exact qo _ (by rw [em, e]) _ k11 FA11
/-! ### Files.write -/
def sp_Files_write (K : PySem.W.Frag) : Sp := fun vs H Q E => ∃ (f r : Addr) (n start : Int) (row : List Int), vs = [.ref f, .int n, .int start, .ref r] ∧ 0 ≤ start ∧ H r = some (.lst (row.map V.int)) ∧ row.length ≤ 10000 ∧ DeedC K f H Q E fun F c => writeD F c n start row
def t_Files_write (K : PySem.W.Frag) (W : WX) : TS := uSeq (uDrop (uMethW (He.ga K "Files") "may_write" (sp_Files_may_write K) W (tVar 0) uNil))
    (uSeq (uAsg (uFld K (uMethW (He.ga K "Files") "file_at" (sp_Files_file_at K) W (tVar 0) (uCons (tVar 1) uNil)) "held") (vName 4))
    (uSeq (uIfS (uTest (uOp rGtI (uOp rAddI (tVar 2) (uCB (cLenQ K) (uCons (tVar 3) uNil))) (uC (.int 600)))) (uRaiseW W (He.ga K "TooGreat")) uNext)
    (uSeq (uIfS (uTest (uOp rGtI (uCB (cLenQ K) (uCons (tVar 3) uNil)) (uC (.int 0)))) (uSeq (uAsg (uOp rCat (tVar 4) (uOp rRep (uLst (uCons (uC (.int 0)) uNil)) (uOp rSubI (tVar 2) (uCB (cLenQ K) (uCons (tVar 4) uNil))))) (vName 5))
    (uSeq (uAsg (uCallW (sp_copied K) W (uCons (uFld K (tVar 0) "state") uNil)) (vName 6))
    (uSeq (uDPut (tVar 6) (tVar 1) (uMakeW (He.ga K "Thing") (sp_Thing___init__ K) W (uCons (uC (.str "file")) (uCons (uOp rCat (uOp rCat (uSl (rSlL K) (tVar 5) uNoPart (uPart (tVar 2))) (uCB (cList K) (uCons (tVar 3) uNil))) (uSl (rSlL K) (tVar 5) (uPart (uOp rAddI (tVar 2) (uCB (cLenQ K) (uCons (tVar 3) uNil)))) uNoPart)) (uCons tDNewK uNil)))))
    (uDrop (uMethW (He.ga K "Files") "become" (sp_Files_become K) W (tVar 0) (uCons (tVar 6) (uCons (uFld K (tVar 0) "kept") uNil))))))) uNext)
    (uRet (uCB (cLenQ K) (uCons (tVar 3) uNil))))))
theorem pure_Files_write {K : PySem.W.Frag} (TT : PxThing K) (T : PxFiles K) {vs : List V} {H : Hp} {Q : VK} {E : XK} (h : sp_Files_write K vs H Q E) : t_Files_write K (WE1 E) (fin Q) (start ["self", "number", "start", "row", "old", "held", "state"] vs) H := by
  obtain ⟨f, r, n, start, row, rfl, h0, hr, lr, h⟩ := h
  show t_Files_write K _ (fin Q) [some (.ref f), some (.int n), some (.int start), some (.ref r), none, none, none] H
  unfold t_Files_write
  walk_at "go"
  rcases h with ⟨ms, F, FA, q⟩ | ⟨d, bl, lg, ms, F, B, Lg, fm, mS, FA, D, W, wN, qe, qo⟩
  · obtain ⟨dx, s0, kp0, us, h1, h2, h3, h4⟩ := id FA.o
    refine x_meth_Files_may_write h1 ?_
    walk_at "go"
    refine ⟨f, ms, .non, F, rfl, FA, ?_⟩
    rw [if_pos rfl]
    exact q
  dsimp only at qe qo
  have wn := wN.wn
  obtain ⟨dx, s0, kp0, us, h1, h2, h3, h4⟩ := id FA.o
  refine x_meth_Files_may_write h1 ?_
  walk_at "go"
  refine ⟨f, ms, .ref d, F, rfl, FA, ?_⟩
  rw [if_neg (by intro z; cases z)]
  intro H1 s1
  have g1 := s1 _ _ h1
  walk_at "go"
  refine x_meth_Files_file_at g1 ?_
  walk_at "go"
  refine ⟨f, ms, .ref d, F, n, rfl, FA.same s1, fun x e H2 s2 => qe x (by unfold writeD; rw [e]) _ (s1.trans s2), fun t e v H2 s2 th => ?_⟩
  have em : writeD F B.length n start row = if 600 < start + (row.length : Int) then .error "TooGreat" else if row = [] then .ok (none, some 0)
    else become F B.length (heldS F.S n (wrL t.held start row)) F.L (some (row.length : Int)) := by unfold writeD; rw [e]
  obtain ⟨et, hd⟩ := fileAt_in e
  obtain ⟨el, p, dx2, hl, rfl, g2, g3, g4⟩ := (th.same (av_same ms H1)).same s2
  have s02 := s1.trans s2
  walk_at "go"
  refine x_lenL (s02 _ _ hr) ?_
  rw [List.length_map]
  walk_at "go"
  by_cases c : 600 < start + (row.length : Int)
  · refine x_ifT (decide_eq_true c) ?_
    walk_at "go"
    exact qe _ (by rw [em, if_pos c]) _ s02
  refine x_ifF (decide_eq_false c) ?_
  rw [if_neg c] at em
  walk_at "go"
  refine x_lenL (s02 _ _ hr) ?_
  rw [List.length_map]
  walk_at "go"
  by_cases c0 : row = []
  · subst c0
    refine x_ifF rfl ?_
    walk_at "go"
    refine x_lenL (s02 _ _ hr) ?_
    rw [if_pos rfl] at em
    exact qo _ em _ (Keep.of s02) (FA.same s02)
  rw [if_neg c0] at em
  refine x_ifT (decide_eq_true (by have := List.length_pos_iff.mpr c0; omega)) ?_
  have g1 := s02 _ _ h1
  have avs := av_same ms H
  have wl := W.len
  have hh := (W.ok et).hl
  walk_at "go"
  refine x_lst fun l1 H3 n3 h3' s3 => ?_
  walk_at "go"
  refine x_lenL (s3 _ _ g3) ?_
  rw [List.length_map]
  walk_at "go"
  refine x_rep h3' (by omega) (by omega) (by rw [sizeLine_eq]; show 1 * _ ≤ _; omega) fun l2 H4 n4 h4' s4 => ?_
  have e0 : (List.replicate (start - (t.held.length : Int)).toNat [V.int 0]).flatten = (List.replicate (start - (t.held.length : Int)).toNat (0 : Int)).map V.int := by
    rw [flat_one, List.map_replicate]
  rw [e0] at h4'
  refine x_cat (s4 _ _ (s3 _ _ g3)) h4' (by rw [sizeLine_eq, List.length_map, List.length_map, List.length_replicate]; omega) fun l3 H4b n4b h4b s4b => ?_
  rw [← List.map_append] at h4b
  have s04 := ((s02.trans s3).trans s4).trans s4b
  have g1 := s04 _ _ h1
  have ew : wrL t.held start row = (t.held ++ List.replicate (start - (t.held.length : Int)).toNat 0).take start.toNat ++ row ++ (t.held ++ List.replicate (start - (t.held.length : Int)).toNat 0).drop (start.toNat + row.length) := rfl
  have lh : (t.held ++ List.replicate (start - (t.held.length : Int)).toNat 0).length ≤ 600 := by rw [List.length_append, List.length_replicate]; omega
  generalize t.held ++ List.replicate (start - (t.held.length : Int)).toNat 0 = hw at h4b ew lh
  walk_at "go"
  refine ⟨s0, F.S, rfl, (h2.same avs).same s04, W.kd, by omega, fun s X H5 eX O s5 => ?_⟩
  have s05 := s04.trans s5
  walk_at "go"
  refine x_slL (SqL.of (s5 _ _ h4b)) fun m1 H6 n6 h6 s6 => ?_
  rw [cutV_to h0] at h6
  walk_at "go"
  refine x_listL (SqL.of ((s05.trans s6) _ _ hr)) fun m2 H7 n7 h7 s7 => ?_
  refine x_cat (s7 _ _ h6) h7 (by rw [sizeLine_eq, List.length_map, List.length_map, List.length_take]; omega) fun m3 H8 n8 h8 s8 => ?_
  rw [← List.map_append] at h8
  walk_at "go"
  refine x_lenL (((((s05.trans s6).trans s7).trans s8)) _ _ hr) ?_
  rw [List.length_map]
  walk_at "go"
  refine x_slL (SqL.of (s8 _ _ (s7 _ _ (s6 _ _ (s5 _ _ h4b))))) fun m4 H9 n9 h9 s9 => ?_
  rw [cutV_fromI (by omega), show (start + (row.length : Int)).toNat = start.toNat + row.length by omega] at h9
  refine x_cat (s9 _ _ h8) h9 (by rw [sizeLine_eq, List.length_map, List.length_map, List.length_append, List.length_take, List.length_drop]; omega) fun m5 H9b n9b h9b s9b => ?_
  rw [← List.map_append, ← ew] at h9b
  walk_at "go"
  refine w_dnew fun e' H10 n10 h10 s10 => ?_
  walk_at "go"
  refine x_mkThing (SqL.of (s10 _ _ h9b)) (.inl h10) fun p2 dx3 a2 b2 H11 np2 na2 nb2 s11 hp2 ha2 hb2 => ?_
  walk_at "go"
  have s5a := (((((s6.trans s7).trans s8).trans s9).trans s9b).trans s10)
  have lX := er_len eX
  obtain ⟨kvs2, fs8, lk2, O9, s9'⟩ := own_set (n := n) (t := ⟨false, wrL t.held start row, []⟩) s5 O (s5a.trans s11) (s5a.free np2) (s5a.free na2) (s5a.free nb2) hp2 ha2 hb2
  refine x_dput fs8 (by omega) (k := Sum.inl n) rfl ?_
  generalize upd H11 s (.dK (putK kvs2 (Sum.inl n) (.ref p2))) = H12 at O9 s9'
  have sX := s04.trans s9'
  have g12 := sX _ _ h1
  walk_at "go"
  refine x_meth_Files_become g12 ?_
  walk_at "go"
  have hcl : (wrL t.held start row).length ≤ 1000 := by
    rw [ew, List.length_append, List.length_append, List.length_take, List.length_drop]
    omega
  refine become_at (a := some (row.length : Int)) fm FA D sX (own_av mS s04 O9 (heldS_er eX)) (h3.same (same_avs sX)) (heldS_ws W.wg et hcl) wn (fun e => qe _ (by rw [em, e])) fun e H13 k13 FA13 => ?_
  walk_at "go"
  refine x_lenL (k13.k _ _ (by rw [List.mem_singleton]; exact ne_of hr h1 (by intro z; cases z)) hr) ?_
  rw [List.length_map]
  exact qo _ (by rw [em, e]) _ k13 FA13
/-! ### Files.link -/
def linkD (F : Fs) (count : Nat) (old new : Str) : Dr := match partsOf old, partsOf new with
  | some ns, some os => match walkedF F.S 0 ns with
    | .error x => .error x
    | .ok n => if ((lk F.S n).getD thD).dir = true then .error "WrongKind" else match placeFor F.S os with
      | .error x => .error x
      | .ok pl => if ((lk F.S pl).getD thD).ents.length = 40 then .error "TooGreat" else become F count (entS F.S pl (lastOf os) n) F.L none
  | _, _ => .error "BadName"
def sp_Files_link (K : PySem.W.Frag) : Sp := fun vs H Q E => ∃ (f : Addr) (p q : Str), vs = [.ref f, .str p, .str q] ∧ p.length ≤ 100000 ∧ q.length ≤ 100000 ∧ DeedC K f H Q E fun F c => linkD F c p q
def t_Files_link (K : PySem.W.Frag) (W : WX) : TS := uSeq (uDrop (uMethW (He.ga K "Files") "may_write" (sp_Files_may_write K) W (tVar 0) uNil))
    (uSeq (uAsg (uCallW (sp_parts K) W (uCons (tVar 1) uNil)) (vName 3))
    (uSeq (uAsg (uCallW (sp_parts K) W (uCons (tVar 2) uNil)) (vName 4))
    (uSeq (uAsg (uCallW (sp_walked K) W (uCons (uFld K (tVar 0) "state") (uCons (tVar 3) uNil))) (vName 5))
    (uSeq (uIfS (uTest (uOp rEq (uFld K (uDGet (uFld K (tVar 0) "state") (tVar 5)) "kind") (uC (.str "dir")))) (uRaiseW W (He.ga K "WrongKind")) uNext)
    (uSeq (uAsg (uMethW (He.ga K "Files") "place_for" (sp_Files_place_for K) W (tVar 0) (uCons (tVar 4) uNil)) (vName 6))
    (uSeq (uIfS (uTest (uOp rEq (uCB cLenD (uCons (uFld K (uDGet (uFld K (tVar 0) "state") (tVar 6)) "entries") uNil)) (uC (.int 40)))) (uRaiseW W (He.ga K "TooGreat")) uNext)
    (uSeq (uAsg (uCallW (sp_copied K) W (uCons (uFld K (tVar 0) "state") uNil)) (vName 7))
    (uSeq (uDPut (uFld K (uDGet (tVar 7) (tVar 6)) "entries") (uOp (rIxL K) (tVar 4) (uUn rNegI (uC (.int 1)))) (tVar 5))
    (uDrop (uMethW (He.ga K "Files") "become" (sp_Files_become K) W (tVar 0) (uCons (tVar 7) (uCons (uFld K (tVar 0) "kept") uNil))))))))))))
theorem pure_Files_link {K : PySem.W.Frag} (TT : PxThing K) (T : PxFiles K) {vs : List V} {H : Hp} {Q : VK} {E : XK} (h : sp_Files_link K vs H Q E) : t_Files_link K (WE1 E) (fin Q) (start ["self", "old", "new", "names", "others", "number", "place", "state"] vs) H := by
  obtain ⟨f, p, q, rfl, hp, hq, h⟩ := h
  show t_Files_link K _ (fin Q) [some (.ref f), some (.str p), some (.str q), none, none, none, none, none] H
  unfold t_Files_link
  walk_at "go"
  rcases h with ⟨ms, F, FA, q⟩ | ⟨d, bl, lg, ms, F, B, Lg, fm, mS, FA, D, W, wN, qe, qo⟩
  · obtain ⟨dx, s0, kp0, us, h1, h2, h3, h4⟩ := id FA.o
    refine x_meth_Files_may_write h1 ?_
    walk_at "go"
    refine ⟨f, ms, .non, F, rfl, FA, ?_⟩
    rw [if_pos rfl]
    exact q
  dsimp only at qe qo
  have wn := wN.wn
  obtain ⟨dx, s0, kp0, us, h1, h2, h3, h4⟩ := id FA.o
  have avs := av_same ms H
  have hS := h2.same avs
  have c := W.clo
  refine x_meth_Files_may_write h1 ?_
  walk_at "go"
  refine ⟨f, ms, .ref d, F, rfl, FA, ?_⟩
  rw [if_neg (by intro z; cases z)]
  intro H1 s1
  walk_at "go"
  refine ⟨p, rfl, hp, fun ns en a H2 na ha s2 => ?_, fun en H2 s2 => ?_⟩
  rotate_left
  · exact qe _ (by unfold linkD; rw [en]) _ (s1.trans s2)
  walk_at "go"
  refine ⟨q, rfl, hq, fun os eo b H3 nb hb s3 => ?_, fun eo H3 s3 => ?_⟩
  rotate_left
  · exact qe _ (by unfold linkD; rw [en, eo]) _ ((s1.trans s2).trans s3)
  have s03 := (s1.trans s2).trans s3
  have hn := parts_names eo
  have g3 := s03 _ _ h1
  walk_at "go"
  have em : linkD F B.length p q = match walkedF F.S 0 ns with
    | .error x => .error x
    | .ok n => if ((lk F.S n).getD thD).dir = true then .error "WrongKind" else match placeFor F.S os with
      | .error x => .error x
      | .ok pl => if ((lk F.S pl).getD thD).ents.length = 40 then .error "TooGreat" else become F B.length (entS F.S pl (lastOf os) n) F.L none := by unfold linkD; rw [en, eo]
  refine ⟨s0, a, F.S, ns, rfl, hS.same s03, c, s3 _ _ ha, ?_⟩
  cases ew : walkedF F.S 0 ns with
  | error x =>
    intro H4 s4
    exact qe _ (by rw [em, ew]) _ (s03.trans s4)
  | ok n =>
    intro H4 s4
    have s04 := s03.trans s4
    rw [ew] at em
    obtain ⟨t, et⟩ := Option.isSome_iff_exists.mp (c.walk c.r ew)
    have em : linkD F B.length p q = if ((lk F.S n).getD thD).dir = true then .error "WrongKind" else match placeFor F.S os with
      | .error x => .error x
      | .ok pl => if ((lk F.S pl).getD thD).ents.length = 40 then .error "TooGreat" else become F B.length (entS F.S pl (lastOf os) n) F.L none := em
    rw [et, Option.getD_some] at em
    obtain ⟨kvs, v, hk, hv, el, pp, dx2, hl, rfl, k1, k2, k3⟩ := state_get (hS.same s04) et
    have g4 := s04 _ _ h1
    walk_at "go"
    refine x_dget (.inl hk) (k := Sum.inl n) rfl hv ?_
    walk_at "go"
    rw [kind_dir]
    cases hd : t.dir with
    | true =>
      refine x_ifT rfl ?_
      walk_at "go"
      exact qe _ (by rw [em, if_pos hd]) _ s04
    | false =>
      rw [if_neg (by rw [hd]; decide)] at em
      refine x_ifF rfl ?_
      walk_at "go"
      refine x_meth_Files_place_for g4 ?_
      walk_at "go"
      refine ⟨f, b, ms, .ref d, F, os, rfl, FA.same s04, c, s4 _ _ hb, fun z hz => (name_ok (hn z hz)).1, ?_⟩
      cases epl : placeFor F.S os with
      | error x =>
        intro H5 s5
        exact qe _ (by rw [em, epl]) _ (s04.trans s5)
      | ok pl =>
        intro H5 s5
        rw [epl] at em
        have em : linkD F B.length p q = if ((lk F.S pl).getD thD).ents.length = 40 then .error "TooGreat" else become F B.length (entS F.S pl (lastOf os) n) F.L none := em
        obtain ⟨e0, u, eu⟩ := placeFor_in epl
        rw [eu, Option.getD_some] at em
        have s05 := s04.trans s5
        obtain ⟨kvs5, v5, hk5, hv5, el5, pp5, dx5, hl5, rfl, k15, k25, k35⟩ := state_get (hS.same s05) eu
        have g5 := s05 _ _ h1
        walk_at "go"
        refine x_dget (.inl hk5) (k := Sum.inl pl) rfl hv5 ?_
        walk_at "go"
        refine x_lenD k35 ?_
        rw [ek_len]
        walk_at "go"
        by_cases e40 : u.ents.length = 40
        · refine x_ifT (decide_eq_true (by omega)) ?_
          walk_at "go"
          exact qe _ (by rw [em, if_pos e40]) _ s05
        refine x_ifF (decide_eq_false (by omega)) ?_
        walk_at "go"
        rw [if_neg e40] at em
        have wl := W.len
        refine ⟨s0, F.S, rfl, hS.same s05, W.kd, by omega, fun s X H6 eX O s6 => ?_⟩
        obtain ⟨el1, hx1⟩ := own_lk eX eu
        obtain ⟨kvs3, p3, dx4, hl3, ek3, hv3, q1', q3, put⟩ := own_ent O hx1 s6
        walk_at "go"
        refine x_dget (.inl ek3) (k := Sum.inl pl) rfl hv3 ?_
        walk_at "go"
        refine x_ixL (v := .str (lastOf os)) (SqL.of (s6 _ _ (s5 _ _ (s4 _ _ hb)))) (atI_last e0) ?_
        refine x_dput q3 (by rw [ek_len]; have h := (W.ok eu).el; omega) (k := Sum.inr (lastOf os)) rfl ?_
        rw [ek_put]
        obtain ⟨O10, s10⟩ := put (pt u.ents (lastOf os) n)
        generalize upd H6 el1 (.dK (ek (pt u.ents (lastOf os) n))) = H10 at O10 s10
        have eX2 : er (pt X pl ({ u with ents := pt u.ents (lastOf os) n }, el1)) = entS F.S pl (lastOf os) n := by
          rw [er_pt, eX]
          unfold entS
          rw [eu]
          rfl
        have sX := s05.trans s10
        have g10 := sX _ _ h1
        walk_at "go"
        refine x_meth_Files_become g10 ?_
        walk_at "go"
        have z60 : (lastOf os).length ≤ 60 := by
          have := (name_ok (hn _ (last_mem e0))).2
          omega
        refine become_at (a := none) fm FA D sX (own_av mS s05 O10 eX2) (h3.same (same_avs sX)) (W.wg.ent z60 (by omega)) wn (fun e => qe _ (by rw [em, e])) fun e H11 k11 FA11 => ?_
        walk_at "go"
        exact qo _ (by rw [em, e]) _ k11 FA11
end SP

set_option Elab.async false
set_option linter.all false
set_option maxRecDepth 100000
set_option maxHeartbeats 4000000
/-! lies_in, forget, Files.unlink, may_replace, rename. -/
namespace SP
open PySem PySem.Spec PyProof.Rows L2
local macro_rules | `(tactic| walk_at "hp") => `(tactic| first
  | assumption
  | exact upd_same
  | (refine' sameAt ?sA ?hA; (case sA => assumption); (case hA => walk_at "hp"))
  | (refine' Eq.trans (upd_ne ?nA) ?hA; (case nA => walk_at "ne"); (case hA => walk_at "hp")))
local macro_rules | `(tactic| walk_at "ne") => `(tactic| first
  | assumption
  | (refine' Ne.symm ?hA; assumption)
  | (refine' ne_of_none (H := _) ?hA (by assumption); walk_at "hp")
  | (refine' Ne.symm (ne_of_none (H := _) ?hA (by assumption)); walk_at "hp")
  | (refine' ne_of ?hA ?hB ?hC; (case hA => assumption); (case hB => walk_at "hp"); (case hC => (intro z; cases z))))
local macro_rules | `(tactic| walk_at "sm") => `(tactic| first
  | exact Same.refl _
  | assumption
  | (refine' sameTr ?sA ?sB; (case sA => assumption); (case sB => walk_at "sm")))
local macro_rules | `(tactic| walk_at "dm") => `(tactic| first
  | exact dmRefl
  | assumption
  | (refine' dmUpd ?dA; (case dA => walk_at "dm"))
  | (refine' dmSame ?sA ?dA; (case sA => assumption); (case dA => walk_at "dm")))
local macro_rules | `(tactic| walk_at "fr") => `(tactic| first
  | assumption
  | (refine' dmAt ?dA ?hA; (case hA => assumption); (case dA => walk_at "dm")))
local macro_rules | `(tactic| walk_at "ab") => `(tactic| (exfalso; refine absurd ?hA (noneSome ?hB); (case hB => walk_at "hp"); (case hA => assumption)))
local macro_rules | `(tactic| walk_at "kp") => `(tactic| first
  | exact Keep.refl
  | assumption
  | (refine' Keep.trans ?kA (keepUpd ?kB ?kC ?kD); (case kB => simp); (case kC => walk_at "hp"); (case kD => (intro xs z; cases z)); (case kA => walk_at "kp"))
  | (refine' keepTr ?kB ?kA; (case kB => assumption); (case kA => walk_at "kp"))
  | (refine' keepSm ?kB ?kA; (case kB => assumption); (case kA => walk_at "kp")))
local macro_rules | `(tactic| walk_at "get") => `(tactic| first
  | (refine' x_get_Files_state ?T ?h ?_) | (refine' x_get_Thing_kind ?T ?h ?_) | (refine' x_get_Thing_entries ?T ?h ?_) | (refine' x_get_Thing_held ?T ?h ?_)
  | (refine' x_get_Files_disk ?T ?h ?_) | (refine' x_get_Files_kept ?T ?h ?_) | (refine' x_get_Files_used ?T ?h ?_)
  | (refine' x_get_Disk_blocks ?T ?h ?_) | (refine' x_get_Disk_log ?T ?h ?_)
  | (refine' x_get_Reader_row ?T ?h ?_) | (refine' x_get_Reader_at ?T ?h ?_) | (refine' x_get_Reader_good ?T ?h ?_)
  | (refine' x_get_Files_slot ?T ?h ?_) | (refine' x_get_Files_turn ?T ?h ?_) | (refine' x_get_Files_is_new ?T ?h ?_))
local macro_rules | `(tactic| walk_at "set") => `(tactic| first
  | ((with_reducible refine' x_set_Disk_blocks ?T ?h ?_); (case T => assumption); (case h => walk_at "hp"))
  | ((with_reducible refine' i_set_Disk_blocks ?T ?h ?_); (case T => assumption); (case h => walk_at "hp"))
  | ((with_reducible refine' x_set_Disk_log ?T ?h ?_); (case T => assumption); (case h => walk_at "hp"))
  | ((with_reducible refine' i_set_Disk_log ?T ?h ?_); (case T => assumption); (case h => walk_at "hp"))
  | ((with_reducible refine' x_set_Thing_kind ?T ?h ?_); (case T => assumption); (case h => walk_at "hp"))
  | ((with_reducible refine' i_set_Thing_kind ?T ?h ?_); (case T => assumption); (case h => walk_at "hp"))
  | ((with_reducible refine' x_set_Thing_held ?T ?h ?_); (case T => assumption); (case h => walk_at "hp"))
  | ((with_reducible refine' i_set_Thing_held ?T ?h ?_); (case T => assumption); (case h => walk_at "hp"))
  | ((with_reducible refine' x_set_Thing_entries ?T ?h ?_); (case T => assumption); (case h => walk_at "hp"))
  | ((with_reducible refine' i_set_Thing_entries ?T ?h ?_); (case T => assumption); (case h => walk_at "hp"))
  | ((with_reducible refine' x_set_Reader_row ?T ?h ?_); (case T => assumption); (case h => walk_at "hp"))
  | ((with_reducible refine' i_set_Reader_row ?T ?h ?_); (case T => assumption); (case h => walk_at "hp"))
  | ((with_reducible refine' x_set_Reader_at ?T ?h ?_); (case T => assumption); (case h => walk_at "hp"))
  | ((with_reducible refine' i_set_Reader_at ?T ?h ?_); (case T => assumption); (case h => walk_at "hp"))
  | ((with_reducible refine' x_set_Reader_good ?T ?h ?_); (case T => assumption); (case h => walk_at "hp"))
  | ((with_reducible refine' i_set_Reader_good ?T ?h ?_); (case T => assumption); (case h => walk_at "hp"))
  | ((with_reducible refine' x_set_Files_disk ?T ?h ?_); (case T => assumption); (case h => walk_at "hp"))
  | ((with_reducible refine' i_set_Files_disk ?T ?h ?_); (case T => assumption); (case h => walk_at "hp"))
  | ((with_reducible refine' x_set_Files_state ?T ?h ?_); (case T => assumption); (case h => walk_at "hp"))
  | ((with_reducible refine' i_set_Files_state ?T ?h ?_); (case T => assumption); (case h => walk_at "hp"))
  | ((with_reducible refine' x_set_Files_kept ?T ?h ?_); (case T => assumption); (case h => walk_at "hp"))
  | ((with_reducible refine' i_set_Files_kept ?T ?h ?_); (case T => assumption); (case h => walk_at "hp"))
  | ((with_reducible refine' x_set_Files_slot ?T ?h ?_); (case T => assumption); (case h => walk_at "hp"))
  | ((with_reducible refine' i_set_Files_slot ?T ?h ?_); (case T => assumption); (case h => walk_at "hp"))
  | ((with_reducible refine' x_set_Files_turn ?T ?h ?_); (case T => assumption); (case h => walk_at "hp"))
  | ((with_reducible refine' i_set_Files_turn ?T ?h ?_); (case T => assumption); (case h => walk_at "hp"))
  | ((with_reducible refine' x_set_Files_used ?T ?h ?_); (case T => assumption); (case h => walk_at "hp"))
  | ((with_reducible refine' i_set_Files_used ?T ?h ?_); (case T => assumption); (case h => walk_at "hp"))
  | ((with_reducible refine' x_set_Files_is_new ?T ?h ?_); (case T => assumption); (case h => walk_at "hp"))
  | ((with_reducible refine' i_set_Files_is_new ?T ?h ?_); (case T => assumption); (case h => walk_at "hp")))
local macro_rules | `(tactic| walk_at "go1") => `(tactic| first
  | ((with_reducible refine w_var (v := ?vv) ?e ?_); (case e => rfl))
  | ((with_reducible walk_at "get"); (case T => assumption); (case h => walk_at "hp"))
  | (with_reducible refine x_bl ?_)
  | (with_reducible refine x_isN ?_) | (with_reducible refine x_notN ?_) | (with_reducible refine x_eqI ?_) | (with_reducible refine x_neI ?_) | (with_reducible refine x_eqS ?_) | (with_reducible refine x_neS ?_)
  | (with_reducible refine x_addI ?_) | (with_reducible refine x_subI ?_) | (with_reducible refine x_ltI ?_) | (with_reducible refine x_leI ?_) | (with_reducible refine x_gtI ?_) | (with_reducible refine x_geI ?_)
  | (with_reducible refine x_bv ?_) | (with_reducible refine x_part ?_) | (with_reducible refine x_neg ?_) | (with_reducible refine x_inS ?_)
  | (walk_at "set")
  | ((with_reducible refine' x_bmL ?h ?_); (case h => walk_at "hp")) | ((with_reducible refine' x_bmL0 ?h ?_); (case h => walk_at "hp")))
local macro_rules | `(tactic| walk_at "go") => `(tactic| ((try with_reducible (conv => whnf)); repeat ((walk_at "go1"); (try with_reducible (conv => whnf)))))
/-! ### lies_in -/
inductive Below (S : St) : Int → Int → Prop
  | refl (a : Int) : Below S a a
  | step {a b c : Int} {t : Th} {z : Str} : lk S a = some t → (z, c) ∈ t.ents → isDir S c → Below S c b → Below S a b
def dirB (S : St) (n : Int) : Bool := ((lk S n).getD thD).dir
theorem dirB_iff {S : St} {n : Int} : dirB S n = true ↔ isDir S n := by
  unfold dirB isDir
  cases e : lk S n with
  | none => exact ⟨fun h => (nomatch h), fun ⟨t, h, _⟩ => (nomatch h)⟩
  | some t => exact ⟨fun h => ⟨t, rfl, h⟩, fun ⟨u, h, d⟩ => by cases h; exact d⟩
def kids (S : St) (t : Th) : List Int := (t.ents.filter fun e => dirB S e.2).map (·.2)
theorem below_kids {S : St} {a b : Int} {t : Th} (e : lk S a = some t) (h : Below S a b) (ne : a ≠ b) : ∃ c ∈ kids S t, Below S c b := by
  cases h with
  | refl => exact absurd rfl ne
  | step e' hm hd hb =>
    rw [e] at e'
    cases e'
    exact ⟨_, List.mem_map.mpr ⟨_, List.mem_filter.mpr ⟨hm, dirB_iff.mpr hd⟩, rfl⟩, hb⟩
theorem kids_below {S : St} {a b c : Int} {t : Th} (e : lk S a = some t) (hc : c ∈ kids S t) (h : Below S c b) : Below S a b := by
  obtain ⟨x, hx, rfl⟩ := List.mem_map.mp hc
  obtain ⟨h1, h2⟩ := List.mem_filter.mp hx
  exact .step e h1 (dirB_iff.mp h2) h
theorem Below.trans {S : St} {a b c : Int} (h1 : Below S a b) (h2 : Below S b c) : Below S a c := by
  induction h1 with
  | refl => exact h2
  | step e hm hd hb ih => exact .step e hm hd (ih h2)
theorem below_rank {S : St} {r : Int → Nat} (hr : ∀ x ∈ S, ∀ e ∈ x.2.ents, isDir S e.2 → r x.1 < r e.2) {a b : Int} (h : Below S a b) : a = b ∨ r a < r b := by
  induction h with
  | refl => exact .inl rfl
  | @step a b c t z e hm hd hb ih =>
    have h1 : r a < r c := hr _ (lk_mem e) _ hm hd
    rcases ih with rfl | h2
    · exact .inr h1
    · exact .inr (Nat.lt_trans h1 h2)
/-- the last step -/
theorem below_last {S : St} {a b : Int} (h : Below S a b) : a = b ∨ ∃ p t z, Below S a p ∧ lk S p = some t ∧ (z, b) ∈ t.ents ∧ isDir S b := by
  induction h with
  | refl => exact .inl rfl
  | @step a b c t z e hm hd hb ih =>
    rcases ih with rfl | ⟨p, u, y, h1, h2, h3, h4⟩
    · exact .inr ⟨a, t, z, .refl a, e, hm, hd⟩
    · exact .inr ⟨p, u, y, .step e hm hd h1, h2, h3, h4⟩
theorem cnt_pos {t : Th} {z : Str} {n : Int} (h : (z, n) ∈ t.ents) : 1 ≤ cntT n t := List.count_pos_iff.mpr (List.mem_map.mpr ⟨_, h, rfl⟩)
theorem sum_two {α : Type} {f : α → Nat} {x y : α} (ne : x ≠ y) : ∀ {l : List α}, x ∈ l → y ∈ l → f x + f y ≤ (l.map f).sum
  | a :: r, hx, hy => by
    rw [List.map_cons, List.sum_cons]
    rcases List.mem_cons.mp hx with e | hx
    · rcases List.mem_cons.mp hy with e2 | hy
      · exact absurd (e.trans e2.symm) ne
      · rw [e]
        have : f y ≤ (r.map f).sum := by
          clear hx e ne
          induction r with
          | nil => cases hy
          | cons b r ih =>
            rw [List.map_cons, List.sum_cons]
            rcases List.mem_cons.mp hy with e | hy
            · rw [e]; omega
            · have := ih (List.mem_cons_of_mem _ hy) hy
              omega
        omega
    · rcases List.mem_cons.mp hy with e2 | hy
      · rw [e2]
        have : f x ≤ (r.map f).sum := by
          clear hy e2 ne
          induction r with
          | nil => cases hx
          | cons b r ih =>
            rw [List.map_cons, List.sum_cons]
            rcases List.mem_cons.mp hx with e | hx
            · rw [e]; omega
            · have := ih (List.mem_cons_of_mem _ hx) hx
              omega
        omega
      · have := sum_two (f := f) ne hx hy
        omega
theorem le_sumN {α : Type} {f : α → Nat} {x : α} : ∀ {l : List α}, x ∈ l → f x ≤ (l.map f).sum
  | y :: r, h => by
    rw [List.map_cons, List.sum_cons]
    rcases List.mem_cons.mp h with e | e
    · rw [e]
      exact Nat.le_add_right _ _
    · exact Nat.le_trans (le_sumN e) (Nat.le_add_left _ _)
/-- a directory has one parent -/
theorem Whole.parent {S : St} (W : Whole S) {n p q : Int} {t u : Th} {z y : Str} (hd : isDir S n) (e1 : lk S p = some t) (h1 : (z, n) ∈ t.ents) (e2 : lk S q = some u) (h2 : (y, n) ∈ u.ents) : p = q := by
  have n0 := (W.cl _ (lk_mem e1) _ h1).1
  have h3 := W.one n n0 hd
  by_cases e : p = q
  · exact e
  · have := sum_two (f := fun x : Int × Th => cntT n x.2) (x := (p, t)) (y := (q, u)) (fun z => e (congrArg Prod.fst z)) (lk_mem e1) (lk_mem e2)
    have c1 := cnt_pos h1
    have c2 := cnt_pos h2
    have this : cntT n t + cntT n u ≤ (S.map fun x : Int × Th => cntT n x.2).sum := this
    have h3 : (S.map fun x => cntT n x.2).sum = 1 := h3
    omega
/-- what two things have below them lies below one of them -/
theorem Whole.chain {S : St} (W : Whole S) {a b d : Int} (h1 : Below S a d) (h2 : Below S b d) : Below S a b ∨ Below S b a := by
  obtain ⟨r, hr⟩ := W.up
  have key : ∀ k d, r d ≤ k → Below S a d → Below S b d → Below S a b ∨ Below S b a := fun k => by
    induction k with
    | zero =>
      intro d hk h1 h2
      rcases below_rank hr h1 with e | e
      · subst e; exact .inr h2
      · omega
    | succ k ih =>
      intro d hk h1 h2
      rcases below_last h1 with e | ⟨p, t, z, g1, g2, g3, g4⟩
      · subst e; exact .inr h2
      rcases below_last h2 with e | ⟨q, u, y, f1, f2, f3, _⟩
      · subst e; exact .inl h1
      have := W.parent g4 g2 g3 f2 f3
      subst this
      have hlt : r p < r d := hr _ (lk_mem g2) _ g3 g4
      exact ih p (by omega) g1 f1
  exact key _ d (Nat.le_refl _) h1 h2
theorem Whole.kids_nd {S : St} (W : Whole S) {a : Int} {t : Th} (e : lk S a = some t) : (kids S t).Nodup := by
  refine List.nodup_iff_count.mpr fun c => ?_
  by_cases hc : c ∈ kids S t
  · obtain ⟨x, hx, rfl⟩ := List.mem_map.mp hc
    obtain ⟨h1, h2⟩ := List.mem_filter.mp hx
    have h3 := W.one x.2 (W.cl _ (lk_mem e) _ h1).1 (dirB_iff.mp h2)
    have h4 : cntT x.2 t ≤ linksN S x.2 := le_sumN (f := fun y : Int × Th => cntT x.2 y.2) (lk_mem e)
    have h5 : (kids S t).count x.2 ≤ cntT x.2 t := List.Sublist.count_le _ (List.Sublist.map _ List.filter_sublist)
    omega
  · rw [List.count_eq_zero_of_not_mem hc]
    exact Nat.zero_le _
noncomputable def belowB (S : St) (a d : Int) : Bool := @decide (Below S a d) (Classical.propDecidable _)
theorem belowB_iff {S : St} {a d : Int} : belowB S a d = true ↔ Below S a d := by
  exact @decide_eq_true_iff _ (Classical.propDecidable _)
/-- how many things lie below one -/
noncomputable def sizeB (S : St) (a : Int) : Nat := ((S.map (·.1)).filter (belowB S a)).length
theorem key_in {S : St} {a : Int} (h : (lk S a).isSome = true) : a ∈ S.map (·.1) := by
  obtain ⟨t, e⟩ := Option.isSome_iff_exists.mp h
  exact List.mem_map.mpr ⟨_, lk_mem e, rfl⟩
theorem Whole.size_pos {S : St} {a : Int} (h : (lk S a).isSome = true) : 1 ≤ sizeB S a := by
  unfold sizeB
  exact List.length_pos_of_mem (List.mem_filter.mpr ⟨key_in h, belowB_iff.mpr (.refl a)⟩)
theorem Whole.size_le {S : St} (W : Whole S) (a : Int) : sizeB S a ≤ 32 := by
  unfold sizeB
  have h1 := List.length_filter_le (belowB S a) (S.map (·.1))
  rw [List.length_map] at h1
  exact Nat.le_trans h1 W.len
theorem Whole.size_kids {S : St} (W : Whole S) {a : Int} {t : Th} (e : lk S a = some t) : ((kids S t).map (sizeB S)).sum < sizeB S a := by
  obtain ⟨r, hr⟩ := W.up
  have edge : ∀ c ∈ kids S t, isDir S c ∧ r a < r c ∧ ∃ z, (z, c) ∈ t.ents := fun c hc => by
    obtain ⟨x, hx, rfl⟩ := List.mem_map.mp hc
    obtain ⟨h1, h2⟩ := List.mem_filter.mp hx
    exact ⟨dirB_iff.mp h2, hr _ (lk_mem e) _ h1 (dirB_iff.mp h2), x.1, h1⟩
  have nup : ∀ c ∈ kids S t, ¬ Below S c a := fun c hc h => by
    obtain ⟨_, h1, _⟩ := edge c hc
    rcases below_rank hr h with z | z
    · rw [z] at h1; omega
    · omega
  have sib : ∀ c ∈ kids S t, ∀ c' ∈ kids S t, Below S c c' → c = c' := fun c hc c' hc' h => by
    rcases below_last h with z | ⟨p, u, y, g1, g2, g3, g4⟩
    · exact z
    · obtain ⟨hd, _, z, hz⟩ := edge c' hc'
      have := W.parent hd g2 g3 e hz
      rw [this] at g1
      exact absurd g1 (nup c hc)
  have key : (a :: (kids S t).flatMap fun c => (S.map (·.1)).filter (belowB S c)).length ≤ sizeB S a := by
    unfold sizeB
    refine nodup_le (List.nodup_cons.mpr ⟨fun h => ?_, ?_⟩) fun d hd => ?_
    · obtain ⟨c, hc, hd⟩ := List.mem_flatMap.mp h
      exact nup c hc (belowB_iff.mp (List.mem_filter.mp hd).2)
    · refine List.pairwise_flatMap.mpr ⟨fun c _ => W.kd.filter _, ?_⟩
      refine List.Pairwise.imp_of_mem ?_ (W.kids_nd e)
      intro c c' hc hc' ne d h1 d' h2 ed
      subst ed
      have b1 := belowB_iff.mp (List.mem_filter.mp h1).2
      have b2 := belowB_iff.mp (List.mem_filter.mp h2).2
      rcases W.chain b1 b2 with h | h
      · exact ne (sib c hc c' hc' h)
      · exact ne (sib c' hc' c hc h).symm
    · rcases List.mem_cons.mp hd with rfl | hd
      · exact List.mem_filter.mpr ⟨List.mem_map.mpr ⟨_, lk_mem e, rfl⟩, belowB_iff.mpr (.refl _)⟩
      · obtain ⟨c, hc, hd⟩ := List.mem_flatMap.mp hd
        obtain ⟨h1, h2⟩ := List.mem_filter.mp hd
        obtain ⟨hdir, _, z, hz⟩ := edge c hc
        exact List.mem_filter.mpr ⟨h1, belowB_iff.mpr (.step e hz hdir (belowB_iff.mp h2))⟩
  rw [List.length_cons, List.length_flatMap] at key
  exact key
theorem len_le_sum {w : Int → Nat} : ∀ {l : List Int}, (∀ x ∈ l, 1 ≤ w x) → l.length ≤ (l.map w).sum
  | [], _ => Nat.le_refl _
  | x :: r, h => by
    rw [List.length_cons, List.map_cons, List.sum_cons]
    have := h x List.mem_cons_self
    have := len_le_sum (w := w) (l := r) fun y hy => h y (List.mem_cons_of_mem _ hy)
    omega
theorem eqv_nilI (ns : List Int) : PyData.eqv (.list (ns.map PyData.int)) (.list []) = decide (ns = []) := by
  cases ns with
  | nil => simp [PyData.eqv, PyData.eqvAll]
  | cons x r => simp [PyData.eqv, PyData.eqvAll]
def sp_lies_in (K : PySem.W.Frag) : Sp := fun vs H Q E => ∃ (a : Addr) (S : St) (n m : Int), vs = [.ref a, .int n, .int m] ∧ StateAt K H a S ∧ Whole S ∧ (lk S m).isSome = true ∧ (Below S m n → ∀ H', Same H H' → Q (.bl true) H') ∧ (¬ Below S m n → ∀ H', Same H H' → Q (.bl false) H')
def t_lies_in (K : PySem.W.Frag) (W : WX) : TS := uSeq (uAsg (uLst (uCons (tVar 2) uNil)) (vName 3))
    (uSeq (tWhile (uTest (uOp (rNeD K) (tVar 3) (uLst uNil))) (uSeq (uAsg (uBM0 K "list" rPop (tVar 3)) (vName 4))
    (uSeq (uIfS (uTest (uOp rEq (tVar 4) (tVar 1))) (uRet (uC (.bl true))) uNext)
    (uDrop (uBM K "list" rExtend (tVar 3) (uCons (tLockE (uLc (uVals (uFld K (uDGet (tVar 0) (tVar 4)) "entries")) (vName 5) (uTest (uOp rEq (uFld K (uDGet (tVar 0) (tVar 5)) "kind") (uC (.str "dir")))) (tVar 5) [5])) uNil))))))
    (uRet (uC (.bl false))))
theorem pure_lies_in {K : PySem.W.Frag} (T : PxThing K) {vs : List V} {H : Hp} {Q : VK} {E : XK} (h : sp_lies_in K vs H Q E) : t_lies_in K (WE1 E) (fin Q) (start ["state", "number", "around", "waiting", "one", "below"] vs) H := by
  obtain ⟨a, S, n, m, rfl, hS, W, hm, qt, qf⟩ := h
  have w32 := W.size_le
  have wk : ∀ a t, lk S a = some t → ((kids S t).map (sizeB S)).sum < sizeB S a := fun a t e => W.size_kids e
  have w0 : ∀ a, (lk S a).isSome = true → 1 ≤ sizeB S a := fun a e => Whole.size_pos e
  generalize sizeB S = w at w32 wk w0
  show t_lies_in K _ (fin Q) [some (.ref a), some (.int n), some (.int m), none, none, none] H
  unfold t_lies_in
  walk_at "go"
  refine x_lst fun l H1 nl hl s1 => ?_
  walk_at "go"
  refine ⟨fun k σ H' => ∃ ws o4 o5, σ = [some (.ref a), some (.int n), some (.int m), some (.ref l), o4, o5] ∧ k = (ws.map w).sum ∧ (ws.map w).sum ≤ w m ∧ Same H H' ∧ H' l = some (.lst (ws.map V.int)) ∧ (∀ x ∈ ws, (lk S x).isSome = true) ∧ (Below S m n ↔ ∃ x ∈ ws, Below S x n), ⟨_, [m], none, none, rfl, rfl, Nat.le_refl _, s1, hl, fun x hx => by rw [List.mem_singleton.mp hx]; exact hm, by simp⟩, fun k σ H' h => ?_⟩
  obtain ⟨ws, o4, o5, rfl, rfl, hwm, s, hw, hin, hb⟩ := h
  walk_at "go"
  refine x_lst fun l0 H2 n0 h0 s2 => ?_
  refine x_neD (.lst (SqL.of (s2 _ _ hw)) (dpAll_ints ws)) (.lst (SqL.of h0) .nil) (shaped_ints ws) rfl ?_
  rw [eqv_nilI]
  walk_at "go"
  by_cases e0 : ws = []
  · subst e0
    refine x_ifF rfl ?_
    walk_at "go"
    exact qf (fun z => by obtain ⟨x, hx, _⟩ := hb.mp z; cases hx) _ (s.trans s2)
  refine x_ifT (by rw [decide_eq_false e0]; rfl) ?_
  obtain ⟨init, one, rfl⟩ : ∃ init one, ws = init ++ [one] := ⟨ws.dropLast, ws.getLast e0, (List.dropLast_concat_getLast e0).symm⟩
  have hw2 := s2 _ _ hw
  have ew : ((init ++ [one]).map w).sum = (init.map w).sum + w one := by
    rw [List.map_append, List.sum_append]
    rfl
  refine ⟨fun σ H'' => ∃ ws o4 o5, σ = [some (.ref a), some (.int n), some (.int m), some (.ref l), o4, o5] ∧ (ws.map w).sum < ((init ++ [one]).map w).sum ∧ Same H H'' ∧ H'' l = some (.lst (ws.map V.int)) ∧ (∀ x ∈ ws, (lk S x).isSome = true) ∧ (Below S m n ↔ ∃ x ∈ ws, Below S x n), fun σ' H'' ⟨ws, o4, o5, e1, e2, e3⟩ => ⟨_, e2, ws, o4, o5, e1, rfl, by omega, e3⟩, ?_⟩
  walk_at "go"
  refine ⟨l, _, .int one, rfl, rfl, hw2, ?_, ?_⟩
  · rw [List.map_append, List.map_singleton, List.length_append]
    show ((init.map V.int) ++ [V.int one])[(init.map V.int).length + 1 - 1]? = _
    rw [Nat.add_sub_cancel, List.getElem?_append_right (Nat.le_refl _), Nat.sub_self]
    rfl
  have ed : ((init ++ [one]).map V.int).dropLast = init.map V.int := by
    rw [List.map_append, List.map_singleton, List.dropLast_concat]
  rw [ed]
  have s3 : Same H (upd H2 l (.lst (init.map V.int))) := updNew nl (s.trans s2)
  have h3 : (upd H2 l (.lst (init.map V.int))) l = some (.lst (init.map V.int)) := upd_same
  generalize upd H2 l (.lst (init.map V.int)) = H3 at s3 h3
  walk_at "go"
  by_cases e1 : one = n
  · refine x_ifT (decide_eq_true e1) ?_
    walk_at "go"
    exact qt (hb.mpr ⟨one, by simp, by rw [e1]; exact .refl n⟩) _ s3
  refine x_ifF (decide_eq_false e1) ?_
  walk_at "go"
  obtain ⟨t, et⟩ := Option.isSome_iff_exists.mp (hin one (by simp))
  have hS3 := hS.same s3
  obtain ⟨kvs, v, ha, hv, el, p, dx, hl2, rfl, g1, g2, g3⟩ := state_get hS3 et
  have c := W.clo
  refine x_lockE (d := el) g3 fun od H4 e4 => ?_
  have l4 : H4 el = some (.frz od (.dK (ek t.ents))) := by rw [e4]; exact upd_same
  have le4 : ∀ {x o}, H3 x = some o → x ≠ el → H4 x = some o := fun hx ne => by rw [e4, upd_ne ne]; exact hx
  have nea : a ≠ el := fun z => by
    rw [z, g3] at ha
    have e9 : ek t.ents = kvs := by
      have := Option.some.inj ha
      injection this
    rw [← e9] at hv
    have hx := valV_any (Sum.inl one : Key) (ek t.ents)
    rw [hv] at hx
    obtain ⟨y, hy, hy2⟩ := List.any_eq_true.mp hx
    unfold ek at hy
    obtain ⟨e', _, rfl⟩ := List.mem_map.mp hy
    exact absurd (of_decide_eq_true hy2) (by intro z; cases z)
  have ha4 := le4 ha nea
  have g14 := le4 g1 (ne_of g1 g3 (by intro z; cases z))
  walk_at "go"
  refine x_dget (.inl ha4) (k := Sum.inl one) rfl hv ?_
  walk_at "go"
  refine x_ivls l4 ?_
  have lke : (ek t.ents).length ≤ 40 := by rw [ek_len]; exact (W.ok et).el
  refine x_lcW walk_values (fun i acc _ => acc = (((t.ents.take i).filter fun e => dirB S e.2).map (·.2)).map V.int) (fun _ _ _ _ _ h => h) (fun H' s => s _ _ l4) (by omega) rfl (fun i x D H' H'' acc P P0 hi nD hD s5 hP hY k1 k2 => ?_) (fun D H' acc nD hD lA s5 hP => ?_)
  · obtain ⟨rfl, k0, ex⟩ := hY
    unfold ek at ex
    rw [List.getElem?_map] at ex
    obtain ⟨e, he, hx⟩ := Option.map_eq_some_iff.mp ex
    cases hx
    have hme : e ∈ t.ents := List.mem_of_getElem? he
    have hes : (lk S e.2).isSome = true := (W.cl _ (lk_mem et) _ hme).2
    obtain ⟨u, eu⟩ := Option.isSome_iff_exists.mp hes
    obtain ⟨kvs', v', ha', hv', el', p', dx', hl', rfl, f1, f2, f3⟩ := state_get hS3 eu
    have fa := s5 _ _ (le4 ha' nea)
    have f1' := s5 _ _ (le4 f1 (ne_of f1 g3 (by intro z; cases z)))
    refine ⟨rfl, ?_⟩
    walk_at "go"
    refine x_dget (.inl fa) (k := Sum.inl e.2) rfl hv' ?_
    walk_at "go"
    rw [kind_dir]
    have ed : dirB S e.2 = u.dir := by unfold dirB; rw [eu]; rfl
    refine x_if (fun hd => ?_) (fun hd => ?_)
    · walk_at "go"
      refine k1 _ _ (Same.refl _) ?_
      rw [hP, take_snoc he, List.filter_append, List.map_append, List.map_append]
      congr 1
      rw [List.filter_cons, if_pos (by rw [ed]; exact hd)]
      rfl
    · refine k2 _ (Same.refl _) ?_
      rw [hP, take_snoc he, List.filter_append, List.map_append, List.map_append]
      rw [List.filter_cons, if_neg (by rw [ed, hd]; decide)]
      simp
  · refine ⟨s5 _ _ l4, ?_⟩
    walk_at "go"
    rw [ek_len, List.take_length] at hP
    have hP : acc = (kids S t).map V.int := hP
    subst hP
    have nDe : D ≠ el := Ne.symm (ne_of_none l4 nD)
    have hl5 : upd H' el (.dK (ek t.ents)) l = some (.lst (init.map V.int)) := by
      rw [upd_ne (ne_of h3 g3 (by intro z; cases z))]
      exact s5 _ _ (le4 h3 (ne_of h3 g3 (by intro z; cases z)))
    have hD5 : upd H' el (.dK (ek t.ents)) D = some (.lst ((kids S t).map V.int)) := by
      rw [upd_ne nDe]
      exact hD
    have s6 : Same H (upd H' el (.dK (ek t.ents))) := by
      rw [e4] at s5
      exact s3.trans (Same.unlock g3 s5)
    have hk := wk one t et
    have kin : ∀ x ∈ kids S t, (lk S x).isSome = true := fun x hx => by
      obtain ⟨y, hy, rfl⟩ := List.mem_map.mp hx
      exact (W.cl _ (lk_mem et) _ (List.mem_filter.mp hy).1).2
    have hkl := len_le_sum fun x hx => w0 x (kin x hx)
    have hil := len_le_sum (l := init) fun x hx => w0 x (hin x (by simp [hx]))
    have := w32 m
    refine ⟨l, D, _, _, rfl, rfl, hl5, hD5, by rw [sizeLine_eq, List.length_map, List.length_map]; omega, ?_⟩
    walk_at "go"
    refine ⟨init ++ kids S t, _, _, rfl, ?_, updNew nl s6, ?_, fun x hx => ?_, ?_⟩
    · rw [ew, List.map_append, List.sum_append]
      omega
    · rw [upd_same, List.map_append]
    · rcases List.mem_append.mp hx with hx | hx
      · exact hin x (by simp [hx])
      · exact kin x hx
    · rw [hb]
      constructor
      · rintro ⟨x, hx, hbx⟩
        rcases List.mem_append.mp hx with hx | hx
        · exact ⟨x, List.mem_append_left _ hx, hbx⟩
        · rw [List.mem_singleton.mp hx] at hbx
          obtain ⟨y, hy, hby⟩ := below_kids et hbx e1
          exact ⟨y, List.mem_append_right _ hy, hby⟩
      · rintro ⟨x, hx, hbx⟩
        rcases List.mem_append.mp hx with hx | hx
        · exact ⟨x, List.mem_append_left _ hx, hbx⟩
        · exact ⟨one, by simp, kids_below et hx hbx⟩
/-! ### forget -/
def forgetS (S : St) (n : Int) : St := if dirB S n = true ∨ linksN S n = 0 then dp S n else S
def sp_forget (K : PySem.W.Frag) : Sp := fun vs H Q E => ∃ (s : Addr) (n : Int) (H4 : Hp) (X : Xs) (S : St), vs = [.ref s, .int n] ∧ OwnAt K (nw H4 H) s X ∧ er X = S ∧ (lk S n).isSome = true ∧ S.length ≤ 1000 ∧ Same H4 H ∧
  ∀ H' X', OwnAt K (nw H4 H') s X' → er X' = forgetS S n → Same H4 H' → Q .non H'
def t_forget (K : PySem.W.Frag) (W : WX) : TS := uIfS (uOr (uTest (uOp rEq (uFld K (uDGet (tVar 0) (tVar 1)) "kind") (uC (.str "dir")))) (uTest (uOp rEq (uCallW (sp_links_of K) W (uCons (tVar 0) (uCons (tVar 1) uNil))) (uC (.int 0))))) (uDrop (uDPop1 (tVar 0) (tVar 1))) uNext
theorem pure_forget {K : PySem.W.Frag} (T : PxThing K) {vs : List V} {H : Hp} {Q : VK} {E : XK} (h : sp_forget K vs H Q E) : t_forget K (WE1 E) (fin Q) (start ["state", "number"] vs) H := by
  obtain ⟨s, n, H4, X, S, rfl, O, eX, hn, hl, s4, q⟩ := h
  have hS : StateAt K H s S := by rw [← eX]; exact O.state.same (nw_same H4 H)
  obtain ⟨t, et⟩ := Option.isSome_iff_exists.mp hn
  obtain ⟨kvs, v, ha, hv, el, p, dx, hl2, rfl, g1, g2, g3⟩ := state_get hS et
  have ed : dirB S n = t.dir := by unfold dirB; rw [et]; rfl
  have pop : ∀ H1, Same H H1 → (dirB S n = true ∨ linksN S n = 0) → (uDrop (uDPop1 (tVar 0) (tVar 1))) (fin Q) [some (.ref s), some (.int n)] H1 := fun H1 s1 hc => by
    have O1 : OwnAt K (nw H4 H1) s X := O.same (nw_sameR (Same.refl H4) s1)
    obtain ⟨kvs1, e1, gk, O2, s2⟩ := own_del (n := n) O1 (s4.trans s1)
    obtain ⟨el', hx⟩ := own_lk eX et
    obtain ⟨v', hv'⟩ := gk _ hx
    walk_at "go"
    refine ⟨s, rfl, .inl ⟨_, .inl e1⟩, ?_⟩
    walk_at "go"
    refine ⟨kvs1, Sum.inl n, v', e1, rfl, hv', ?_⟩
    exact q _ _ O2 (by rw [er_dp, eX]; unfold forgetS; rw [if_pos hc]) s2
  show t_forget K _ (fin Q) [some (.ref s), some (.int n)] H
  unfold t_forget
  walk_at "go"
  refine x_dget (.inl ha) (k := Sum.inl n) rfl hv ?_
  walk_at "go"
  rw [kind_dir]
  cases hd : t.dir with
  | true =>
    refine x_ifT rfl ?_
    refine x_ifT rfl ?_
    exact pop H (Same.refl H) (.inl (by rw [ed, hd]))
  | false =>
    refine x_ifF rfl ?_
    walk_at "go"
    refine ⟨s, S, n, rfl, hS, hn, hl, fun H1 s1 => ?_⟩
    have e1 : linksF S n = (linksN S n : Int) := by
      unfold linksF
      rw [et]
      show (if t.dir = true then _ else _) = _
      rw [if_neg (by rw [hd]; decide)]
    rw [e1]
    walk_at "go"
    by_cases c : linksN S n = 0
    · refine x_ifT (decide_eq_true (by omega)) ?_
      exact pop H1 s1 (.inr c)
    · refine x_ifF (decide_eq_false (by omega)) ?_
      walk_at "go"
      exact q H1 X (O.same (nw_sameR (Same.refl H4) s1)) (by rw [eX]; unfold forgetS; rw [if_neg]; rintro (z | z); rw [ed, hd] at z; cases z; exact c z) (s4.trans s1)
theorem forgetS_wg {S : St} (w : Wg S) (n : Int) : Wg (forgetS S n) := by
  unfold forgetS
  split
  · exact w.del n
  · exact w
/-! ### Files.unlink -/
theorem place_walk {S : St} {ns : List Str} {n : Int} (e0 : ns ≠ []) (h : walkedF S 0 ns = .ok n) : ∃ pl t, placeOf S ns = .ok pl ∧ lk S pl = some t ∧ t.dir = true ∧ lk t.ents (lastOf ns) = some n := by
  have en : ns = ns.dropLast ++ [lastOf ns] := by
    have := (List.dropLast_concat_getLast e0).symm
    have e2 : ns.getLast e0 = lastOf ns := by
      unfold lastOf
      rw [List.getLast?_eq_some_getLast e0]
      rfl
    rw [e2] at this
    exact this
  rw [en, walked_snoc] at h
  cases ew : walkedF S 0 ns.dropLast with
  | error x => rw [ew] at h; cases h
  | ok pl =>
    rw [ew] at h
    have h : entryOf S pl (lastOf ns) = .ok n := h
    unfold entryOf at h
    split at h
    · cases h
    · rename_i t et
      split at h
      · rename_i hd
        split at h
        · cases h
        · rename_i i ei
          cases h
          refine ⟨pl, t, ?_, et, hd, ei⟩
          unfold placeOf
          rw [ew]
          show (match lk S pl with | some t => _ | none => _) = _
          rw [et]
          exact if_pos hd
      · cases h
def unlinkD (F : Fs) (count : Nat) (p : Str) : Dr := match partsOf p with
  | none => .error "BadName"
  | some ns => match walkedF F.S 0 ns with
    | .error x => .error x
    | .ok n => if ns = [] then .error "WrongKind" else if 0 < ((lk F.S n).getD thD).ents.length then .error "NotEmpty" else match placeOf F.S ns with
      | .error x => .error x
      | .ok pl => become F count (forgetS (dropS F.S pl (lastOf ns)) n) F.L none
theorem lk_dropS {S : St} {pl n : Int} {z : Str} (h : (lk S n).isSome = true) : (lk (dropS S pl z) n).isSome = true := by
  unfold dropS
  rw [lk_pt]
  split
  · rfl
  · exact h
theorem lk_entS {S : St} {pl n m : Int} {z : Str} (h : (lk S n).isSome = true) : (lk (entS S pl z m) n).isSome = true := by
  unfold entS
  rw [lk_pt]
  split
  · rfl
  · exact h
theorem strs_dp {K : PySem.W.Frag} {H : Hp} {a : Addr} {ns : List Str} (h : H a = some (.lst (ns.map V.str))) (hok : ∀ z ∈ ns, isName z = true) : Dp K H (.ref a) (.list (ns.map PyData.str)) ∧ SeqAt.shaped (.list (ns.map PyData.str)) = true :=
  ⟨.lst (SqL.of h) (dpAll_strs ns), (Shp.list (n := 0) fun x hx => by
    obtain ⟨z, hz, rfl⟩ := List.mem_map.mp hx
    exact Shp.str (name_ok (hok z hz)).1).ok (by decide)⟩
def sp_Files_unlink (K : PySem.W.Frag) : Sp := fun vs H Q E => ∃ (f : Addr) (p : Str), vs = [.ref f, .str p] ∧ p.length ≤ 100000 ∧ DeedC K f H Q E fun F c => unlinkD F c p
def t_Files_unlink (K : PySem.W.Frag) (W : WX) : TS := uSeq (uDrop (uMethW (He.ga K "Files") "may_write" (sp_Files_may_write K) W (tVar 0) uNil))
    (uSeq (uAsg (uCallW (sp_parts K) W (uCons (tVar 1) uNil)) (vName 2))
    (uSeq (uAsg (uCallW (sp_walked K) W (uCons (uFld K (tVar 0) "state") (uCons (tVar 2) uNil))) (vName 3))
    (uSeq (uIfS (uTest (uOp (rEqD K) (tVar 2) (uLst uNil))) (uRaiseW W (He.ga K "WrongKind")) uNext)
    (uSeq (uIfS (uTest (uOp rGtI (uCB cLenD (uCons (uFld K (uDGet (uFld K (tVar 0) "state") (tVar 3)) "entries") uNil)) (uC (.int 0)))) (uRaiseW W (He.ga K "NotEmpty")) uNext)
    (uSeq (uAsg (uCallW (sp_copied K) W (uCons (uFld K (tVar 0) "state") uNil)) (vName 4))
    (uSeq (uDrop (uDPop1 (uFld K (uDGet (tVar 4) (uCallW (sp_place_of K) W (uCons (tVar 4) (uCons (tVar 2) uNil)))) "entries") (uOp (rIxL K) (tVar 2) (uUn rNegI (uC (.int 1))))))
    (uSeq (uDrop (uCallW (sp_forget K) W (uCons (tVar 4) (uCons (tVar 3) uNil))))
    (uDrop (uMethW (He.ga K "Files") "become" (sp_Files_become K) W (tVar 0) (uCons (tVar 4) (uCons (uFld K (tVar 0) "kept") uNil)))))))))))
theorem pure_Files_unlink {K : PySem.W.Frag} (TT : PxThing K) (T : PxFiles K) {vs : List V} {H : Hp} {Q : VK} {E : XK} (h : sp_Files_unlink K vs H Q E) : t_Files_unlink K (WE1 E) (fin Q) (start ["self", "path", "names", "number", "state"] vs) H := by
  obtain ⟨f, p, rfl, hp, h⟩ := h
  show t_Files_unlink K _ (fin Q) [some (.ref f), some (.str p), none, none, none] H
  unfold t_Files_unlink
  walk_at "go"
  rcases h with ⟨ms, F, FA, q⟩ | ⟨d, bl, lg, ms, F, B, Lg, fm, mS, FA, D, W, wN, qe, qo⟩
  · obtain ⟨dx, s0, kp0, us, h1, h2, h3, h4⟩ := id FA.o
    refine x_meth_Files_may_write h1 ?_
    walk_at "go"
    refine ⟨f, ms, .non, F, rfl, FA, ?_⟩
    rw [if_pos rfl]
    exact q
  dsimp only at qe qo
  have wn := wN.wn
  obtain ⟨dx, s0, kp0, us, h1, h2, h3, h4⟩ := id FA.o
  have hS := h2.same (av_same ms H)
  have c := W.clo
  have wl := W.len
  refine x_meth_Files_may_write h1 ?_
  walk_at "go"
  refine ⟨f, ms, .ref d, F, rfl, FA, ?_⟩
  rw [if_neg (by intro z; cases z)]
  intro H1 s1
  walk_at "go"
  refine ⟨p, rfl, hp, fun ns en a H2 na ha s2 => ?_, fun en H2 s2 => ?_⟩
  rotate_left
  · exact qe _ (by unfold unlinkD; rw [en]) _ (s1.trans s2)
  have s02 := s1.trans s2
  have hn := parts_names en
  have g2 := s02 _ _ h1
  walk_at "go"
  have em : unlinkD F B.length p = match walkedF F.S 0 ns with
    | .error x => .error x
    | .ok n => if ns = [] then .error "WrongKind" else if 0 < ((lk F.S n).getD thD).ents.length then .error "NotEmpty" else match placeOf F.S ns with
      | .error x => .error x
      | .ok pl => become F B.length (forgetS (dropS F.S pl (lastOf ns)) n) F.L none := by unfold unlinkD; rw [en]
  refine ⟨s0, a, F.S, ns, rfl, hS.same s02, c, ha, ?_⟩
  cases ew : walkedF F.S 0 ns with
  | error x =>
    intro H4 s4
    exact qe _ (by rw [em, ew]) _ (s02.trans s4)
  | ok n =>
    intro H4 s4
    have s04 := s02.trans s4
    rw [ew] at em
    have em : unlinkD F B.length p = if ns = [] then .error "WrongKind" else if 0 < ((lk F.S n).getD thD).ents.length then .error "NotEmpty" else match placeOf F.S ns with
      | .error x => .error x
      | .ok pl => become F B.length (forgetS (dropS F.S pl (lastOf ns)) n) F.L none := em
    have ha4 := s4 _ _ ha
    have g4 := s04 _ _ h1
    walk_at "go"
    refine x_lst fun l5 H5 n5 h5 s5 => ?_
    have hdp := strs_dp (K := K) (s5 _ _ ha4) hn
    refine x_eqD hdp.1 (.lst (SqL.of h5) .nil) hdp.2 rfl ?_
    rw [eqv_nil]
    have s05 := s04.trans s5
    walk_at "go"
    by_cases e0 : ns = []
    · refine x_ifT (decide_eq_true e0) ?_
      walk_at "go"
      exact qe _ (by rw [em, if_pos e0]) _ s05
    refine x_ifF (decide_eq_false e0) ?_
    rw [if_neg e0] at em
    obtain ⟨t, et⟩ := Option.isSome_iff_exists.mp (c.walk c.r ew)
    rw [et, Option.getD_some] at em
    obtain ⟨kvs, v, hk, hv, el, pp, dx2, hl, rfl, k1, k2, k3⟩ := state_get (hS.same s05) et
    have g5 := s05 _ _ h1
    walk_at "go"
    refine x_dget (.inl hk) (k := Sum.inl n) rfl hv ?_
    walk_at "go"
    refine x_lenD k3 ?_
    rw [ek_len]
    walk_at "go"
    by_cases e1 : 0 < t.ents.length
    · refine x_ifT (decide_eq_true (by omega)) ?_
      walk_at "go"
      exact qe _ (by rw [em, if_pos e1]) _ s05
    refine x_ifF (decide_eq_false (by omega)) ?_
    rw [if_neg e1] at em
    obtain ⟨pl, u, epl, eu, ud, uz⟩ := place_walk e0 ew
    rw [epl] at em
    have em : unlinkD F B.length p = become F B.length (forgetS (dropS F.S pl (lastOf ns)) n) F.L none := em
    walk_at "go"
    refine ⟨s0, F.S, rfl, hS.same s05, W.kd, by omega, fun s X H6 eX O s6 => ?_⟩
    have s06 := s05.trans s6
    walk_at "go"
    have hS6 : StateAt K H6 s F.S := by rw [← eX]; exact O.state.same (nw_same H5 H6)
    refine ⟨s, a, F.S, ns, rfl, hS6, c, s6 _ _ (s5 _ _ ha4), ?_⟩
    rw [epl]
    intro H7 s7
    have O7 : OwnAt K (nw H5 H7) s X := O.same (nw_sameR (Same.refl H5) s7)
    obtain ⟨el1, hx1⟩ := own_lk eX eu
    obtain ⟨kvs3, p3, dx4, hl3, ek3, hv3, q1', q3, put⟩ := own_ent O7 hx1 (s6.trans s7)
    refine x_dget (.inl ek3) (k := Sum.inl pl) rfl hv3 ?_
    walk_at "go"
    refine ⟨el1, rfl, .inl ⟨_, .inl q3⟩, ?_⟩
    walk_at "go"
    have a7 := s7 _ _ (s6 _ _ (s5 _ _ ha4))
    refine x_ixL (v := .str (lastOf ns)) (SqL.of a7) (atI_last e0) ?_
    refine ⟨_, Sum.inr (lastOf ns), .int n, q3, rfl, by rw [ek_get, uz]; rfl, ?_⟩
    rw [ek_drop]
    obtain ⟨O8, s8⟩ := put (dp u.ents (lastOf ns))
    generalize upd H7 el1 (.dK (ek (dp u.ents (lastOf ns)))) = H8 at O8 s8
    have eX2 : er (pt X pl ({ u with ents := dp u.ents (lastOf ns) }, el1)) = dropS F.S pl (lastOf ns) := by
      rw [er_pt, eX]
      unfold dropS
      rw [eu]
      rfl
    walk_at "go"
    refine ⟨s, n, H5, _, _, rfl, O8, eX2, lk_dropS (by rw [et]; rfl), ?_, s8, fun H9 X9 O9 e9 s9 => ?_⟩
    · unfold dropS
      rw [pt_len_old _ eu]
      omega
    have sX := s05.trans s9
    have g9 := sX _ _ h1
    walk_at "go"
    refine x_meth_Files_become g9 ?_
    walk_at "go"
    refine become_at (a := none) fm FA D sX (own_av mS s05 O9 e9) (h3.same (same_avs sX)) (forgetS_wg (W.wg.drop (by omega)) n).ws wn (fun e => qe _ (by rw [em, e])) fun e H11 k11 FA11 => ?_
    walk_at "go"
    exact qo _ (by rw [em, e]) _ k11 FA11
end SP

set_option Elab.async false
set_option linter.all false
set_option maxRecDepth 100000
set_option maxHeartbeats 4000000
/-! Files.may_replace, rename. -/
namespace SP
open PySem PySem.Spec PyProof.Rows L2
local macro_rules | `(tactic| walk_at "hp") => `(tactic| first
  | assumption
  | exact upd_same
  | (refine' sameAt ?sA ?hA; (case sA => assumption); (case hA => walk_at "hp"))
  | (refine' Eq.trans (upd_ne ?nA) ?hA; (case nA => walk_at "ne"); (case hA => walk_at "hp")))
local macro_rules | `(tactic| walk_at "ne") => `(tactic| first
  | assumption
  | (refine' Ne.symm ?hA; assumption)
  | (refine' ne_of_none (H := _) ?hA (by assumption); walk_at "hp")
  | (refine' Ne.symm (ne_of_none (H := _) ?hA (by assumption)); walk_at "hp")
  | (refine' ne_of ?hA ?hB ?hC; (case hA => assumption); (case hB => walk_at "hp"); (case hC => (intro z; cases z))))
local macro_rules | `(tactic| walk_at "sm") => `(tactic| first
  | exact Same.refl _
  | assumption
  | (refine' sameTr ?sA ?sB; (case sA => assumption); (case sB => walk_at "sm")))
local macro_rules | `(tactic| walk_at "dm") => `(tactic| first
  | exact dmRefl
  | assumption
  | (refine' dmUpd ?dA; (case dA => walk_at "dm"))
  | (refine' dmSame ?sA ?dA; (case sA => assumption); (case dA => walk_at "dm")))
local macro_rules | `(tactic| walk_at "fr") => `(tactic| first
  | assumption
  | (refine' dmAt ?dA ?hA; (case hA => assumption); (case dA => walk_at "dm")))
local macro_rules | `(tactic| walk_at "ab") => `(tactic| (exfalso; refine absurd ?hA (noneSome ?hB); (case hB => walk_at "hp"); (case hA => assumption)))
local macro_rules | `(tactic| walk_at "kp") => `(tactic| first
  | exact Keep.refl
  | assumption
  | (refine' Keep.trans ?kA (keepUpd ?kB ?kC ?kD); (case kB => simp); (case kC => walk_at "hp"); (case kD => (intro xs z; cases z)); (case kA => walk_at "kp"))
  | (refine' keepTr ?kB ?kA; (case kB => assumption); (case kA => walk_at "kp"))
  | (refine' keepSm ?kB ?kA; (case kB => assumption); (case kA => walk_at "kp")))
local macro_rules | `(tactic| walk_at "get") => `(tactic| first
  | (refine' x_get_Files_state ?T ?h ?_) | (refine' x_get_Thing_kind ?T ?h ?_) | (refine' x_get_Thing_entries ?T ?h ?_) | (refine' x_get_Thing_held ?T ?h ?_)
  | (refine' x_get_Files_disk ?T ?h ?_) | (refine' x_get_Files_kept ?T ?h ?_) | (refine' x_get_Files_used ?T ?h ?_)
  | (refine' x_get_Disk_blocks ?T ?h ?_) | (refine' x_get_Disk_log ?T ?h ?_)
  | (refine' x_get_Reader_row ?T ?h ?_) | (refine' x_get_Reader_at ?T ?h ?_) | (refine' x_get_Reader_good ?T ?h ?_)
  | (refine' x_get_Files_slot ?T ?h ?_) | (refine' x_get_Files_turn ?T ?h ?_) | (refine' x_get_Files_is_new ?T ?h ?_))
local macro_rules | `(tactic| walk_at "set") => `(tactic| first
  | ((with_reducible refine' x_set_Disk_blocks ?T ?h ?_); (case T => assumption); (case h => walk_at "hp"))
  | ((with_reducible refine' i_set_Disk_blocks ?T ?h ?_); (case T => assumption); (case h => walk_at "hp"))
  | ((with_reducible refine' x_set_Disk_log ?T ?h ?_); (case T => assumption); (case h => walk_at "hp"))
  | ((with_reducible refine' i_set_Disk_log ?T ?h ?_); (case T => assumption); (case h => walk_at "hp"))
  | ((with_reducible refine' x_set_Thing_kind ?T ?h ?_); (case T => assumption); (case h => walk_at "hp"))
  | ((with_reducible refine' i_set_Thing_kind ?T ?h ?_); (case T => assumption); (case h => walk_at "hp"))
  | ((with_reducible refine' x_set_Thing_held ?T ?h ?_); (case T => assumption); (case h => walk_at "hp"))
  | ((with_reducible refine' i_set_Thing_held ?T ?h ?_); (case T => assumption); (case h => walk_at "hp"))
  | ((with_reducible refine' x_set_Thing_entries ?T ?h ?_); (case T => assumption); (case h => walk_at "hp"))
  | ((with_reducible refine' i_set_Thing_entries ?T ?h ?_); (case T => assumption); (case h => walk_at "hp"))
  | ((with_reducible refine' x_set_Reader_row ?T ?h ?_); (case T => assumption); (case h => walk_at "hp"))
  | ((with_reducible refine' i_set_Reader_row ?T ?h ?_); (case T => assumption); (case h => walk_at "hp"))
  | ((with_reducible refine' x_set_Reader_at ?T ?h ?_); (case T => assumption); (case h => walk_at "hp"))
  | ((with_reducible refine' i_set_Reader_at ?T ?h ?_); (case T => assumption); (case h => walk_at "hp"))
  | ((with_reducible refine' x_set_Reader_good ?T ?h ?_); (case T => assumption); (case h => walk_at "hp"))
  | ((with_reducible refine' i_set_Reader_good ?T ?h ?_); (case T => assumption); (case h => walk_at "hp"))
  | ((with_reducible refine' x_set_Files_disk ?T ?h ?_); (case T => assumption); (case h => walk_at "hp"))
  | ((with_reducible refine' i_set_Files_disk ?T ?h ?_); (case T => assumption); (case h => walk_at "hp"))
  | ((with_reducible refine' x_set_Files_state ?T ?h ?_); (case T => assumption); (case h => walk_at "hp"))
  | ((with_reducible refine' i_set_Files_state ?T ?h ?_); (case T => assumption); (case h => walk_at "hp"))
  | ((with_reducible refine' x_set_Files_kept ?T ?h ?_); (case T => assumption); (case h => walk_at "hp"))
  | ((with_reducible refine' i_set_Files_kept ?T ?h ?_); (case T => assumption); (case h => walk_at "hp"))
  | ((with_reducible refine' x_set_Files_slot ?T ?h ?_); (case T => assumption); (case h => walk_at "hp"))
  | ((with_reducible refine' i_set_Files_slot ?T ?h ?_); (case T => assumption); (case h => walk_at "hp"))
  | ((with_reducible refine' x_set_Files_turn ?T ?h ?_); (case T => assumption); (case h => walk_at "hp"))
  | ((with_reducible refine' i_set_Files_turn ?T ?h ?_); (case T => assumption); (case h => walk_at "hp"))
  | ((with_reducible refine' x_set_Files_used ?T ?h ?_); (case T => assumption); (case h => walk_at "hp"))
  | ((with_reducible refine' i_set_Files_used ?T ?h ?_); (case T => assumption); (case h => walk_at "hp"))
  | ((with_reducible refine' x_set_Files_is_new ?T ?h ?_); (case T => assumption); (case h => walk_at "hp"))
  | ((with_reducible refine' i_set_Files_is_new ?T ?h ?_); (case T => assumption); (case h => walk_at "hp")))
local macro_rules | `(tactic| walk_at "go1") => `(tactic| first
  | ((with_reducible refine w_var (v := ?vv) ?e ?_); (case e => rfl))
  | ((with_reducible walk_at "get"); (case T => assumption); (case h => walk_at "hp"))
  | (with_reducible refine x_bl ?_)
  | (with_reducible refine x_isN ?_) | (with_reducible refine x_notN ?_) | (with_reducible refine x_eqI ?_) | (with_reducible refine x_neI ?_) | (with_reducible refine x_eqS ?_) | (with_reducible refine x_neS ?_)
  | (with_reducible refine x_addI ?_) | (with_reducible refine x_subI ?_) | (with_reducible refine x_ltI ?_) | (with_reducible refine x_leI ?_) | (with_reducible refine x_gtI ?_) | (with_reducible refine x_geI ?_)
  | (with_reducible refine x_bv ?_) | (with_reducible refine x_part ?_) | (with_reducible refine x_neg ?_) | (with_reducible refine x_inS ?_)
  | (walk_at "set")
  | ((with_reducible refine' x_bmL ?h ?_); (case h => walk_at "hp")) | ((with_reducible refine' x_bmL0 ?h ?_); (case h => walk_at "hp")))
local macro_rules | `(tactic| walk_at "go") => `(tactic| ((try with_reducible (conv => whnf)); repeat ((walk_at "go1"); (try with_reducible (conv => whnf)))))
def mayRep (S : St) (n o : Int) : Option Str := if dirB S n ≠ dirB S o then some "WrongKind" else if 0 < ((lk S o).getD thD).ents.length then some "NotEmpty" else none
def sp_Files_may_replace (K : PySem.W.Frag) : Sp := fun vs H Q E => ∃ (f : Addr) (ms : List Addr) (dv : V) (F : Fs) (n o : Int), vs = [.ref f, .int n, .int o] ∧ FilesAt K ms H f dv F ∧ (lk F.S n).isSome = true ∧ (lk F.S o).isSome = true ∧
  (∀ x, mayRep F.S n o = some x → ∀ H', Same H H' → Exn K E x H') ∧ (mayRep F.S n o = none → ∀ H', Same H H' → Q .non H')
def t_Files_may_replace (K : PySem.W.Frag) (W : WX) : TS := uSeq (uIfS (uTest (uOp rNe (uFld K (uDGet (uFld K (tVar 0) "state") (tVar 1)) "kind") (uFld K (uDGet (uFld K (tVar 0) "state") (tVar 2)) "kind"))) (uRaiseW W (He.ga K "WrongKind")) uNext)
    (uIfS (uTest (uOp rGtI (uCB cLenD (uCons (uFld K (uDGet (uFld K (tVar 0) "state") (tVar 2)) "entries") uNil)) (uC (.int 0)))) (uRaiseW W (He.ga K "NotEmpty")) uNext)
theorem kind_ne (a b : Bool) : decide (kindS a = kindS b) = decide (a = b) := by cases a <;> cases b <;> rfl
theorem pure_Files_may_replace {K : PySem.W.Frag} (TT : PxThing K) (T : PxFiles K) {vs : List V} {H : Hp} {Q : VK} {E : XK} (h : sp_Files_may_replace K vs H Q E) : t_Files_may_replace K (WE1 E) (fin Q) (start ["self", "number", "other"] vs) H := by
  obtain ⟨f, ms, dv, F, n, o, rfl, ⟨dx, st, kp, us, h1, h2, h3, h4⟩, hn, ho, qe, qo⟩ := h
  have hS := h2.same (av_same ms H)
  obtain ⟨t, et⟩ := Option.isSome_iff_exists.mp hn
  obtain ⟨u, eu⟩ := Option.isSome_iff_exists.mp ho
  obtain ⟨kvs, v, ha, hv, el, p, dx1, hl, rfl, g1, g2, g3⟩ := state_get hS et
  obtain ⟨kvs', v', ha', hv', el', p', dx', hl', rfl, f1, f2, f3⟩ := state_get hS eu
  have em : mayRep F.S n o = (if t.dir ≠ u.dir then some ("WrongKind" : Str) else if 0 < u.ents.length then some ("NotEmpty" : Str) else none : Option Str) := by unfold mayRep dirB; rw [et, eu]; rfl
  show t_Files_may_replace K _ (fin Q) [some (.ref f), some (.int n), some (.int o)] H
  unfold t_Files_may_replace
  walk_at "go"
  refine x_dget (.inl ha) (k := Sum.inl n) rfl hv ?_
  walk_at "go"
  refine x_dget (.inl ha') (k := Sum.inl o) rfl hv' ?_
  walk_at "go"
  rw [kind_ne]
  by_cases c : t.dir = u.dir
  · refine x_ifF (by rw [decide_eq_true c]; rfl) ?_
    rw [if_neg (fun z => z c)] at em
    walk_at "go"
    refine x_dget (.inl ha') (k := Sum.inl o) rfl hv' ?_
    walk_at "go"
    refine x_lenD f3 ?_
    rw [ek_len]
    walk_at "go"
    by_cases c1 : 0 < u.ents.length
    · refine x_ifT (decide_eq_true (by omega)) ?_
      walk_at "go"
      exact qe _ (by rw [em, if_pos c1]) _ (Same.refl H)
    · refine x_ifF (decide_eq_false (by omega)) ?_
      walk_at "go"
      exact qo (by rw [em, if_neg c1]) _ (Same.refl H)
  · refine x_ifT (by rw [decide_eq_false c]; rfl) ?_
    walk_at "go"
    exact qe _ (by rw [em, if_pos c]) _ (Same.refl H)
/-! ### rename -/
def renS (S : St) (fr : Int) (z : Str) (pl : Int) (y : Str) (n : Int) (there : Option Int) : St := match there with
  | none => entS (dropS S fr z) pl y n
  | some o => forgetS (entS (dropS S fr z) pl y n) o
/-- what may stand in the way behind the walks -/
def repl (S : St) (n : Int) : Option Int → Option Str
  | none => none
  | some o => mayRep S n o
noncomputable def renameT (F : Fs) (count : Nat) (n : Int) (ns os : List Str) (pl : Int) : Dr :=
  if belowB F.S n pl = true then .error "WrongKind" else
  if lk ((lk F.S pl).getD thD).ents (lastOf os) = some n then .ok (none, none) else
  match repl F.S n (lk ((lk F.S pl).getD thD).ents (lastOf os)) with
  | some x => .error x
  | none => match placeOf F.S ns with
    | .error x => .error x
    | .ok fr => if lk ((lk F.S pl).getD thD).ents (lastOf os) = none ∧ pl ≠ fr ∧ ((lk F.S pl).getD thD).ents.length = 40 then .error "TooGreat"
      else become F count (renS F.S fr (lastOf ns) pl (lastOf os) n (lk ((lk F.S pl).getD thD).ents (lastOf os))) F.L none
noncomputable def renameD (F : Fs) (count : Nat) (old new : Str) : Dr := match partsOf old, partsOf new with
  | some ns, some os => match walkedF F.S 0 ns with
    | .error x => .error x
    | .ok n => if ns = [] ∨ os = [] then .error "WrongKind" else match placeOf F.S os with
      | .error x => .error x
      | .ok pl => renameT F count n ns os pl
  | _, _ => .error "BadName"
theorem x_eqV {x y : V} {H : Hp} {Q : VK} (s : scal x y = true) {b : Bool} (e : decide (x = y) = b) (q : Q (.bl b) H) : rEq x y H Q := ⟨s, by rw [e]; exact q⟩
def vOpt : Option Int → V
  | none => .non
  | some i => .int i
theorem vOpt_map (o : Option Int) : (o.map V.int).getD .non = vOpt o := by cases o <;> rfl
theorem vOpt_eq (o : Option Int) (n : Int) : decide (vOpt o = .int n) = decide (o = some n) := by
  cases o with
  | none => exact (decide_eq_false (by intro z; cases z)).trans (decide_eq_false (by intro z; cases z)).symm
  | some i =>
    by_cases h : i = n
    · subst h; rw [decide_eq_true (show vOpt (some i) = V.int i from rfl), decide_eq_true rfl]
    · rw [decide_eq_false (by intro z; cases z; exact h rfl), decide_eq_false (by intro z; cases z; exact h rfl)]
theorem vOpt_non (o : Option Int) : decide (vOpt o = .non) = o.isNone := by
  cases o with
  | none => exact decide_eq_true rfl
  | some i => exact decide_eq_false (by intro z; cases z)
theorem renS_ws {S : St} (w : Wg S) (hl : S.length ≤ 38) {fr pl n : Int} {z y : Str} {th : Option Int} (e1 : (lk S fr).isSome = true) (e2 : (lk S pl).isSome = true) (hy : y.length ≤ 60) : Ws (renS S fr z pl y n th) := by
  obtain ⟨t1, h1⟩ := Option.isSome_iff_exists.mp e1
  have w1 : Wg (dropS S fr z) := w.drop (by omega)
  have l1 : (dropS S fr z).length = S.length := by unfold dropS; rw [pt_len_old _ h1]
  have w2 : Ws (entS (dropS S fr z) pl y n) := w1.ent hy (by omega)
  unfold renS
  cases th with
  | none => exact w2
  | some o =>
    show Ws (forgetS _ o)
    unfold forgetS
    split
    · exact ⟨nd_dp w2.kd, Nat.le_trans (dp_len_le _ _) w2.sl, fun x hx => w2.wt x (mem_dp.mp hx).1⟩
    · exact w2
def sp_Files_rename (K : PySem.W.Frag) : Sp := fun vs H Q E => ∃ (f : Addr) (p q : Str), vs = [.ref f, .str p, .str q] ∧ p.length ≤ 100000 ∧ q.length ≤ 100000 ∧ DeedC K f H Q E fun F c => renameD F c p q
def t_Files_rename (K : PySem.W.Frag) (W : WX) : TS := uSeq (uDrop (uMethW (He.ga K "Files") "may_write" (sp_Files_may_write K) W (tVar 0) uNil))
    (uSeq (uAsg (uCallW (sp_parts K) W (uCons (tVar 1) uNil)) (vName 3))
    (uSeq (uAsg (uCallW (sp_parts K) W (uCons (tVar 2) uNil)) (vName 4))
    (uSeq (uAsg (uCallW (sp_walked K) W (uCons (uFld K (tVar 0) "state") (uCons (tVar 3) uNil))) (vName 5))
    (uSeq (uIfS (uOr (uTest (uOp (rEqD K) (tVar 3) (uLst uNil))) (uTest (uOp (rEqD K) (tVar 4) (uLst uNil)))) (uRaiseW W (He.ga K "WrongKind")) uNext)
    (uSeq (uAsg (uCallW (sp_place_of K) W (uCons (uFld K (tVar 0) "state") (uCons (tVar 4) uNil))) (vName 6))
    (uSeq (uIfS (uTest (uCallW (sp_lies_in K) W (uCons (uFld K (tVar 0) "state") (uCons (tVar 6) (uCons (tVar 5) uNil))))) (uRaiseW W (He.ga K "WrongKind")) uNext)
    (uSeq (uAsg (uDGet1 (uFld K (uDGet (uFld K (tVar 0) "state") (tVar 6)) "entries") (uOp (rIxL K) (tVar 4) (uUn rNegI (uC (.int 1))))) (vName 7))
    (uSeq (uIfS (uTest (uOp rEq (tVar 7) (tVar 5))) uRetN uNext)
    (uSeq (uIfS (uTest (uOp rNotN (tVar 7) (uC .non))) (uDrop (uMethW (He.ga K "Files") "may_replace" (sp_Files_may_replace K) W (tVar 0) (uCons (tVar 5) (uCons (tVar 7) uNil)))) uNext)
    (uSeq (uAsg (uCallW (sp_place_of K) W (uCons (uFld K (tVar 0) "state") (uCons (tVar 3) uNil))) (vName 8))
    (uSeq (uIfS (uAnd (uTest (uOp rIsN (tVar 7) (uC .non))) (uAnd (uTest (uOp rNe (tVar 6) (tVar 8))) (uTest (uOp rEq (uCB cLenD (uCons (uFld K (uDGet (uFld K (tVar 0) "state") (tVar 6)) "entries") uNil)) (uC (.int 40)))))) (uRaiseW W (He.ga K "TooGreat")) uNext)
    (uSeq (uAsg (uCallW (sp_copied K) W (uCons (uFld K (tVar 0) "state") uNil)) (vName 9))
    (uSeq (uDrop (uDPop1 (uFld K (uDGet (tVar 9) (tVar 8)) "entries") (uOp (rIxL K) (tVar 3) (uUn rNegI (uC (.int 1))))))
    (uSeq (uDPut (uFld K (uDGet (tVar 9) (tVar 6)) "entries") (uOp (rIxL K) (tVar 4) (uUn rNegI (uC (.int 1)))) (tVar 5))
    (uSeq (uIfS (uTest (uOp rNotN (tVar 7) (uC .non))) (uDrop (uCallW (sp_forget K) W (uCons (tVar 9) (uCons (tVar 7) uNil)))) uNext)
    (uDrop (uMethW (He.ga K "Files") "become" (sp_Files_become K) W (tVar 0) (uCons (tVar 9) (uCons (uFld K (tVar 0) "kept") uNil)))))))))))))))))))
theorem pure_Files_rename {K : PySem.W.Frag} (TT : PxThing K) (T : PxFiles K) {vs : List V} {H : Hp} {Q : VK} {E : XK} (h : sp_Files_rename K vs H Q E) : t_Files_rename K (WE1 E) (fin Q) (start ["self", "old", "new", "names", "others", "number", "place", "there", "from_place", "state"] vs) H := by
  obtain ⟨f, p, q, rfl, hp, hq, h⟩ := h
  show t_Files_rename K _ (fin Q) [some (.ref f), some (.str p), some (.str q), none, none, none, none, none, none, none] H
  unfold t_Files_rename
  walk_at "go"
  rcases h with ⟨ms, F, FA, q⟩ | ⟨d, bl, lg, ms, F, B, Lg, fm, mS, FA, D, W, wN, qe, qo⟩
  · obtain ⟨dx, s0, kp0, us, h1, h2, h3, h4⟩ := id FA.o
    refine x_meth_Files_may_write h1 ?_
    walk_at "go"
    refine ⟨f, ms, .non, F, rfl, FA, ?_⟩
    rw [if_pos rfl]
    exact q
  dsimp only at qe qo
  have wn := wN.wn
  obtain ⟨dx, s0, kp0, us, h1, h2, h3, h4⟩ := id FA.o
  have hS := h2.same (av_same ms H)
  have c := W.clo
  have wl := W.len
  refine x_meth_Files_may_write h1 ?_
  walk_at "go"
  refine ⟨f, ms, .ref d, F, rfl, FA, ?_⟩
  rw [if_neg (by intro z; cases z)]
  intro H1 s1
  walk_at "go"
  refine ⟨p, rfl, hp, fun ns en a H2 na ha s2 => ?_, fun en H2 s2 => ?_⟩
  rotate_left
  · exact qe _ (by unfold renameD; rw [en]) _ (s1.trans s2)
  walk_at "go"
  refine ⟨q, rfl, hq, fun os eo b H3 nb hb s3 => ?_, fun eo H3 s3 => ?_⟩
  rotate_left
  · exact qe _ (by unfold renameD; rw [en, eo]) _ ((s1.trans s2).trans s3)
  have s03 := (s1.trans s2).trans s3
  have hn := parts_names en
  have ho := parts_names eo
  have g3 := s03 _ _ h1
  have ha := s3 _ _ ha
  walk_at "go"
  have em : renameD F B.length p q = match walkedF F.S 0 ns with
    | .error x => .error x
    | .ok n => if ns = [] ∨ os = [] then .error "WrongKind" else match placeOf F.S os with
      | .error x => .error x
      | .ok pl => renameT F B.length n ns os pl := by unfold renameD; rw [en, eo]
  refine ⟨s0, a, F.S, ns, rfl, hS.same s03, c, ha, ?_⟩
  cases ew : walkedF F.S 0 ns with
  | error x =>
    intro H4 s4
    exact qe _ (by rw [em, ew]) _ (s03.trans s4)
  | ok n =>
  intro H4 s4
  have s04 := s03.trans s4
  have ha := s4 _ _ ha
  have hb := s4 _ _ hb
  rw [ew] at em
  have em : renameD F B.length p q = if ns = [] ∨ os = [] then .error "WrongKind" else match placeOf F.S os with
      | .error x => .error x
      | .ok pl => renameT F B.length n ns os pl := em
  have hin := c.walk c.r ew
  walk_at "go"
  refine x_lst fun l5 H5 n5 h5 s5 => ?_
  have hdp := strs_dp (K := K) (s5 _ _ ha) hn
  refine x_eqD hdp.1 (.lst (SqL.of h5) .nil) hdp.2 rfl ?_
  rw [eqv_nil]
  have s05 := s04.trans s5
  walk_at "go"
  by_cases e0 : ns = []
  · refine x_ifT (decide_eq_true e0) ?_
    refine x_ifT rfl ?_
    walk_at "go"
    exact qe _ (by rw [em, if_pos (.inl e0)]) _ s05
  refine x_ifF (decide_eq_false e0) ?_
  walk_at "go"
  refine x_lst fun l6 H6 n6 h6 s6 => ?_
  have hdq := strs_dp (K := K) ((s5.trans s6) _ _ hb) ho
  refine x_eqD hdq.1 (.lst (SqL.of h6) .nil) hdq.2 rfl ?_
  rw [eqv_nil]
  have s06 := s05.trans s6
  have ha := (s5.trans s6) _ _ ha
  have hb := (s5.trans s6) _ _ hb
  walk_at "go"
  by_cases e1 : os = []
  · refine x_ifT (decide_eq_true e1) ?_
    walk_at "go"
    exact qe _ (by rw [em, if_pos (.inr e1)]) _ s06
  refine x_ifF (decide_eq_false e1) ?_
  rw [if_neg (by rintro (z | z); exact e0 z; exact e1 z)] at em
  have g6 := s06 _ _ h1
  walk_at "go"
  refine ⟨s0, b, F.S, os, rfl, hS.same s06, c, hb, ?_⟩
  cases epl : placeOf F.S os with
  | error x =>
    intro H7 s7
    exact qe _ (by rw [em, epl]) _ (s06.trans s7)
  | ok pl =>
  intro H7 s7
  rw [epl] at em
  have em : renameD F B.length p q = renameT F B.length n ns os pl := em
  have s07 := s06.trans s7
  have ha := s7 _ _ ha
  have hb := s7 _ _ hb
  obtain ⟨t, et, td⟩ := placeOf_in c epl
  have g7 := s07 _ _ h1
  walk_at "go"
  refine ⟨s0, F.S, pl, n, rfl, hS.same s07, W, hin, fun hbl H8 s8 => ?_, fun hbl H8 s8 => ?_⟩
  · walk_at "go"
    refine x_ifT rfl ?_
    walk_at "go"
    exact qe _ (by rw [em]; unfold renameT; rw [if_pos (belowB_iff.mpr hbl)]) _ (s07.trans s8)
  have em : renameD F B.length p q = if lk t.ents (lastOf os) = some n then .ok (none, none) else
      match repl F.S n (lk t.ents (lastOf os)) with
      | some x => .error x
      | none => match placeOf F.S ns with
        | .error x => .error x
        | .ok fr => if lk t.ents (lastOf os) = none ∧ pl ≠ fr ∧ t.ents.length = 40 then .error "TooGreat"
          else become F B.length (renS F.S fr (lastOf ns) pl (lastOf os) n (lk t.ents (lastOf os))) F.L none := by
    rw [em]
    unfold renameT
    rw [if_neg (fun z => hbl (belowB_iff.mp z)), et]
    rfl
  walk_at "go"
  refine x_ifF rfl ?_
  have s08 := s07.trans s8
  have ha := s8 _ _ ha
  have hb := s8 _ _ hb
  have g8 := s08 _ _ h1
  obtain ⟨kvs, v, hk, hv, el, pp, dx2, hl, rfl, k1, k2, k3⟩ := state_get (hS.same s08) et
  walk_at "go"
  refine x_dget (.inl hk) (k := Sum.inl pl) rfl hv ?_
  walk_at "go"
  refine ⟨el, rfl, .inl ⟨_, .inl k3⟩, ?_⟩
  walk_at "go"
  refine x_ixL (v := .str (lastOf os)) (SqL.of hb) (atI_last e1) ?_
  refine ⟨_, dget_rd (.inl k3) (k := Sum.inr (lastOf os)) rfl rfl, ?_⟩
  rw [ek_get, vOpt_map]
  have hth : ∀ o, lk t.ents (lastOf os) = some o → (lk F.S o).isSome = true := fun o e => c.c _ _ et _ _ e
  generalize lk t.ents (lastOf os) = th at em hth
  walk_at "go"
  have sc : scal (vOpt th) (.int n) = true := by cases th <;> rfl
  refine x_eqV sc (vOpt_eq th n) ?_
  walk_at "go"
  by_cases e2 : th = some n
  · refine x_ifT (decide_eq_true e2) ?_
    walk_at "go"
    rw [if_pos e2] at em
    exact qo _ em _ (Keep.of s08) (FA.same s08)
  refine x_ifF (decide_eq_false e2) ?_
  rw [if_neg e2] at em
  obtain ⟨fr, u, efr, eu, ud, uz⟩ := place_walk e0 ew
  walk_at "go"
  rw [vOpt_non]
  have rest : ∀ H9, Same H8 H9 → repl F.S n th = none → (uSeq (uAsg (uCallW (sp_place_of K) (WE1 E) (uCons (uFld K (tVar 0) "state") (uCons (tVar 3) uNil))) (vName 8))
    (uSeq (uIfS (uAnd (uTest (uOp rIsN (tVar 7) (uC .non))) (uAnd (uTest (uOp rNe (tVar 6) (tVar 8))) (uTest (uOp rEq (uCB cLenD (uCons (uFld K (uDGet (uFld K (tVar 0) "state") (tVar 6)) "entries") uNil)) (uC (.int 40)))))) (uRaiseW (WE1 E) (He.ga K "TooGreat")) uNext)
    (uSeq (uAsg (uCallW (sp_copied K) (WE1 E) (uCons (uFld K (tVar 0) "state") uNil)) (vName 9))
    (uSeq (uDrop (uDPop1 (uFld K (uDGet (tVar 9) (tVar 8)) "entries") (uOp (rIxL K) (tVar 3) (uUn rNegI (uC (.int 1))))))
    (uSeq (uDPut (uFld K (uDGet (tVar 9) (tVar 6)) "entries") (uOp (rIxL K) (tVar 4) (uUn rNegI (uC (.int 1)))) (tVar 5))
    (uSeq (uIfS (uTest (uOp rNotN (tVar 7) (uC .non))) (uDrop (uCallW (sp_forget K) (WE1 E) (uCons (tVar 9) (uCons (tVar 7) uNil)))) uNext)
    (uDrop (uMethW (He.ga K "Files") "become" (sp_Files_become K) (WE1 E) (tVar 0) (uCons (tVar 9) (uCons (uFld K (tVar 0) "kept") uNil)))))))))) (fin Q) [some (.ref f), some (.str p), some (.str q), some (.ref a), some (.ref b), some (.int n), some (.int pl), some (vOpt th), none, none] H9 := fun H9 s9 er0 => by
    rw [er0, efr] at em
    have em : renameD F B.length p q = if th = none ∧ pl ≠ fr ∧ t.ents.length = 40 then .error "TooGreat" else become F B.length (renS F.S fr (lastOf ns) pl (lastOf os) n th) F.L none := em
    have s09 := s08.trans s9
    have ha := s9 _ _ ha
    have hb := s9 _ _ hb
    have g9 := s09 _ _ h1
    walk_at "go"
    refine ⟨s0, a, F.S, ns, rfl, hS.same s09, c, ha, ?_⟩
    rw [efr]
    intro H10 s10
    have s010 := s09.trans s10
    have ha := s10 _ _ ha
    have hb := s10 _ _ hb
    have g10 := s010 _ _ h1
    walk_at "go"
    rw [vOpt_non]
    have after : ¬ (th = none ∧ pl ≠ fr ∧ t.ents.length = 40) → (uSeq (uAsg (uCallW (sp_copied K) (WE1 E) (uCons (uFld K (tVar 0) "state") uNil)) (vName 9))
    (uSeq (uDrop (uDPop1 (uFld K (uDGet (tVar 9) (tVar 8)) "entries") (uOp (rIxL K) (tVar 3) (uUn rNegI (uC (.int 1))))))
    (uSeq (uDPut (uFld K (uDGet (tVar 9) (tVar 6)) "entries") (uOp (rIxL K) (tVar 4) (uUn rNegI (uC (.int 1)))) (tVar 5))
    (uSeq (uIfS (uTest (uOp rNotN (tVar 7) (uC .non))) (uDrop (uCallW (sp_forget K) (WE1 E) (uCons (tVar 9) (uCons (tVar 7) uNil)))) uNext)
    (uDrop (uMethW (He.ga K "Files") "become" (sp_Files_become K) (WE1 E) (tVar 0) (uCons (tVar 9) (uCons (uFld K (tVar 0) "kept") uNil)))))))) (fin Q) [some (.ref f), some (.str p), some (.str q), some (.ref a), some (.ref b), some (.int n), some (.int pl), some (vOpt th), some (.int fr), none] H10 := fun hne => by
      rw [if_neg hne] at em
      walk_at "go"
      refine ⟨s0, F.S, rfl, hS.same s010, W.kd, by omega, fun s X H11 eX O s11 => ?_⟩
      have s011 := s010.trans s11
      have ha := s11 _ _ ha
      have hb := s11 _ _ hb
      obtain ⟨el1, hx1⟩ := own_lk eX eu
      obtain ⟨kvs3, p3, dx4, hl3, ek3, hv3, q1', q3, put⟩ := own_ent O hx1 s11
      walk_at "go"
      refine x_dget (.inl ek3) (k := Sum.inl fr) rfl hv3 ?_
      walk_at "go"
      refine ⟨el1, rfl, .inl ⟨_, .inl q3⟩, ?_⟩
      walk_at "go"
      refine x_ixL (v := .str (lastOf ns)) (SqL.of ha) (atI_last e0) ?_
      refine ⟨_, Sum.inr (lastOf ns), .int n, q3, rfl, by rw [ek_get, uz]; rfl, ?_⟩
      rw [ek_drop]
      obtain ⟨O12, s12⟩ := put (dp u.ents (lastOf ns))
      have s11b : Same H10 (upd H11 el1 (.dK (ek (dp u.ents (lastOf ns))))) := s12
      generalize upd H11 el1 (.dK (ek (dp u.ents (lastOf ns)))) = H12 at O12 s12 s11b
      have eX2 : er (pt X fr ({ u with ents := dp u.ents (lastOf ns) }, el1)) = dropS F.S fr (lastOf ns) := by
        rw [er_pt, eX]
        unfold dropS
        rw [eu]
        rfl
      generalize pt X fr ({ u with ents := dp u.ents (lastOf ns) }, el1) = X2 at O12 eX2
      have ha10 : H10 a = some (.lst (ns.map V.str)) := s10 _ _ (s9 _ _ (by assumption))
      have hb10 : H10 b = some (.lst (os.map V.str)) := s10 _ _ (s9 _ _ (by assumption))
      have hpl : (lk (dropS F.S fr (lastOf ns)) pl).isSome = true := lk_dropS (by rw [et]; rfl)
      obtain ⟨t2, et2⟩ := Option.isSome_iff_exists.mp hpl
      obtain ⟨el2, hx2⟩ := own_lk eX2 et2
      obtain ⟨kvs5, p5, dx5, hl5, ek5, hv5, q5', q5, put2⟩ := own_ent O12 hx2 s12
      walk_at "go"
      refine x_dget (.inl ek5) (k := Sum.inl pl) rfl hv5 ?_
      walk_at "go"
      refine x_ixL (v := .str (lastOf os)) (SqL.of (s12 _ _ hb10)) (atI_last e1) ?_
      have wd : Wg (dropS F.S fr (lastOf ns)) := W.wg.drop (by omega)
      refine x_dput q5 (by rw [ek_len]; have h := (wd.wt _ (lk_mem et2)).2; exact Nat.le_trans h (by decide)) (k := Sum.inr (lastOf os)) rfl ?_
      rw [ek_put]
      obtain ⟨O13, s13⟩ := put2 (pt t2.ents (lastOf os) n)
      generalize upd H12 el2 (.dK (ek (pt t2.ents (lastOf os) n))) = H13 at O13 s13
      have eX3 : er (pt X2 pl ({ t2 with ents := pt t2.ents (lastOf os) n }, el2)) = entS (dropS F.S fr (lastOf ns)) pl (lastOf os) n := by
        rw [er_pt, eX2]
        unfold entS
        rw [et2]
        rfl
      generalize pt X2 pl ({ t2 with ents := pt t2.ents (lastOf os) n }, el2) = X3 at O13 eX3
      walk_at "go"
      rw [vOpt_non]
      have z60 : (lastOf os).length ≤ 60 := by
        have := (name_ok (ho _ (last_mem e1))).2
        omega
      have wr : Ws (renS F.S fr (lastOf ns) pl (lastOf os) n th) := renS_ws W.wg (by omega) (by rw [eu]; rfl) (by rw [et]; rfl) z60
      have last : ∀ H14 X4, OwnAt K (nw H10 H14) s X4 → er X4 = renS F.S fr (lastOf ns) pl (lastOf os) n th → Same H10 H14 →
        (uDrop (uMethW (He.ga K "Files") "become" (sp_Files_become K) (WE1 E) (tVar 0) (uCons (tVar 9) (uCons (uFld K (tVar 0) "kept") uNil)))) (fin Q) [some (.ref f), some (.str p), some (.str q), some (.ref a), some (.ref b), some (.int n), some (.int pl), some (vOpt th), some (.int fr), some (.ref s)] H14 := fun H14 X4 O14 eX4 s14 => by
        have sX := s010.trans s14
        have g14 := sX _ _ h1
        walk_at "go"
        refine x_meth_Files_become g14 ?_
        walk_at "go"
        refine become_at (a := none) fm FA D sX (own_av mS s010 O14 eX4) (h3.same (same_avs sX)) wr wn (fun e => qe _ (by rw [em, e])) fun e H15 k15 FA15 => ?_
        walk_at "go"
        exact qo _ (by rw [em, e]) _ k15 FA15
      cases th with
      | none =>
        refine x_ifF rfl ?_
        exact last _ _ O13 eX3 s13
      | some o =>
        refine x_ifT rfl ?_
        walk_at "go"
        have ho3 : (lk (entS (dropS F.S fr (lastOf ns)) pl (lastOf os) n) o).isSome = true := lk_entS (lk_dropS (hth o rfl))
        have l1 : (dropS F.S fr (lastOf ns)).length = F.S.length := by unfold dropS; rw [pt_len_old _ eu]
        refine ⟨s, o, H10, _, _, rfl, O13, eX3, ho3, ?_, s13, fun H14 X4 O14 eX4 s14 => ?_⟩
        · have := pt_len_le (dropS F.S fr (lastOf ns)) pl { (lk (dropS F.S fr (lastOf ns)) pl).getD thD with ents := pt ((lk (dropS F.S fr (lastOf ns)) pl).getD thD).ents (lastOf os) n }
          have : (entS (dropS F.S fr (lastOf ns)) pl (lastOf os) n).length ≤ (dropS F.S fr (lastOf ns)).length + 1 := this
          omega
        · exact last _ _ O14 eX4 s14
    cases eth : th with
    | some o =>
      subst eth
      refine x_ifF rfl ?_
      refine x_ifF rfl ?_
      exact after (fun z => by cases z.1)
    | none =>
      subst eth
      refine x_ifT rfl ?_
      walk_at "go"
      by_cases e3 : pl = fr
      · refine x_ifF (by rw [decide_eq_true e3]; rfl) ?_
        walk_at "go"
        refine x_ifF rfl ?_
        exact after (fun z => z.2.1 e3)
      refine x_ifT (by rw [decide_eq_false e3]; rfl) ?_
      obtain ⟨kvs, v, hk, hv, el, pp, dx2, hl, rfl, k1, k2, k3⟩ := state_get (hS.same s010) et
      walk_at "go"
      refine x_dget (.inl hk) (k := Sum.inl pl) rfl hv ?_
      walk_at "go"
      refine x_lenD k3 ?_
      rw [ek_len]
      walk_at "go"
      by_cases e40 : t.ents.length = 40
      · refine x_ifT (decide_eq_true (by omega)) ?_
        walk_at "go"
        exact qe _ (by rw [em, if_pos ⟨rfl, e3, e40⟩]) _ s010
      · refine x_ifF (decide_eq_false (by omega)) ?_
        exact after (fun z => e40 z.2.2)
  cases eth : th with
  | none =>
    subst eth
    refine x_ifF rfl ?_
    exact rest H8 (Same.refl _) rfl
  | some o =>
    subst eth
    refine x_ifT rfl ?_
    walk_at "go"
    refine x_meth_Files_may_replace g8 ?_
    walk_at "go"
    refine ⟨f, ms, .ref d, F, n, o, rfl, FA.same s08, hin, hth o rfl, fun x ex H9 s9 => ?_, fun ex H9 s9 => ?_⟩
    · have : repl F.S n (some o) = some x := ex
      exact qe _ (by rw [em, this]) _ (s08.trans s9)
    · exact rest H9 s9 ex
end SP

set_option Elab.async false
set_option linter.all false
set_option maxRecDepth 100000
set_option maxHeartbeats 4000000
/-! Files.snap, need_snap, unsnap, see. -/
namespace SP
open PySem PySem.Spec PyProof.Rows L2
local macro_rules | `(tactic| walk_at "hp") => `(tactic| first
  | assumption
  | exact upd_same
  | (refine' sameAt ?sA ?hA; (case sA => assumption); (case hA => walk_at "hp"))
  | (refine' Eq.trans (upd_ne ?nA) ?hA; (case nA => walk_at "ne"); (case hA => walk_at "hp")))
local macro_rules | `(tactic| walk_at "ne") => `(tactic| first
  | assumption
  | (refine' Ne.symm ?hA; assumption)
  | (refine' ne_of_none (H := _) ?hA (by assumption); walk_at "hp")
  | (refine' Ne.symm (ne_of_none (H := _) ?hA (by assumption)); walk_at "hp")
  | (refine' ne_of ?hA ?hB ?hC; (case hA => assumption); (case hB => walk_at "hp"); (case hC => (intro z; cases z))))
local macro_rules | `(tactic| walk_at "sm") => `(tactic| first
  | exact Same.refl _
  | assumption
  | (refine' sameTr ?sA ?sB; (case sA => assumption); (case sB => walk_at "sm")))
local macro_rules | `(tactic| walk_at "dm") => `(tactic| first
  | exact dmRefl
  | assumption
  | (refine' dmUpd ?dA; (case dA => walk_at "dm"))
  | (refine' dmSame ?sA ?dA; (case sA => assumption); (case dA => walk_at "dm")))
local macro_rules | `(tactic| walk_at "fr") => `(tactic| first
  | assumption
  | (refine' dmAt ?dA ?hA; (case hA => assumption); (case dA => walk_at "dm")))
local macro_rules | `(tactic| walk_at "ab") => `(tactic| (exfalso; refine absurd ?hA (noneSome ?hB); (case hB => walk_at "hp"); (case hA => assumption)))
local macro_rules | `(tactic| walk_at "kp") => `(tactic| first
  | exact Keep.refl
  | assumption
  | (refine' Keep.trans ?kA (keepUpd ?kB ?kC ?kD); (case kB => simp); (case kC => walk_at "hp"); (case kD => (intro xs z; cases z)); (case kA => walk_at "kp"))
  | (refine' keepTr ?kB ?kA; (case kB => assumption); (case kA => walk_at "kp"))
  | (refine' keepSm ?kB ?kA; (case kB => assumption); (case kA => walk_at "kp")))
local macro_rules | `(tactic| walk_at "get") => `(tactic| first
  | (refine' x_get_Files_state ?T ?h ?_) | (refine' x_get_Thing_kind ?T ?h ?_) | (refine' x_get_Thing_entries ?T ?h ?_) | (refine' x_get_Thing_held ?T ?h ?_)
  | (refine' x_get_Files_disk ?T ?h ?_) | (refine' x_get_Files_kept ?T ?h ?_) | (refine' x_get_Files_used ?T ?h ?_)
  | (refine' x_get_Disk_blocks ?T ?h ?_) | (refine' x_get_Disk_log ?T ?h ?_)
  | (refine' x_get_Reader_row ?T ?h ?_) | (refine' x_get_Reader_at ?T ?h ?_) | (refine' x_get_Reader_good ?T ?h ?_)
  | (refine' x_get_Files_slot ?T ?h ?_) | (refine' x_get_Files_turn ?T ?h ?_) | (refine' x_get_Files_is_new ?T ?h ?_))
local macro_rules | `(tactic| walk_at "set") => `(tactic| first
  | ((with_reducible refine' x_set_Disk_blocks ?T ?h ?_); (case T => assumption); (case h => walk_at "hp"))
  | ((with_reducible refine' i_set_Disk_blocks ?T ?h ?_); (case T => assumption); (case h => walk_at "hp"))
  | ((with_reducible refine' x_set_Disk_log ?T ?h ?_); (case T => assumption); (case h => walk_at "hp"))
  | ((with_reducible refine' i_set_Disk_log ?T ?h ?_); (case T => assumption); (case h => walk_at "hp"))
  | ((with_reducible refine' x_set_Thing_kind ?T ?h ?_); (case T => assumption); (case h => walk_at "hp"))
  | ((with_reducible refine' i_set_Thing_kind ?T ?h ?_); (case T => assumption); (case h => walk_at "hp"))
  | ((with_reducible refine' x_set_Thing_held ?T ?h ?_); (case T => assumption); (case h => walk_at "hp"))
  | ((with_reducible refine' i_set_Thing_held ?T ?h ?_); (case T => assumption); (case h => walk_at "hp"))
  | ((with_reducible refine' x_set_Thing_entries ?T ?h ?_); (case T => assumption); (case h => walk_at "hp"))
  | ((with_reducible refine' i_set_Thing_entries ?T ?h ?_); (case T => assumption); (case h => walk_at "hp"))
  | ((with_reducible refine' x_set_Reader_row ?T ?h ?_); (case T => assumption); (case h => walk_at "hp"))
  | ((with_reducible refine' i_set_Reader_row ?T ?h ?_); (case T => assumption); (case h => walk_at "hp"))
  | ((with_reducible refine' x_set_Reader_at ?T ?h ?_); (case T => assumption); (case h => walk_at "hp"))
  | ((with_reducible refine' i_set_Reader_at ?T ?h ?_); (case T => assumption); (case h => walk_at "hp"))
  | ((with_reducible refine' x_set_Reader_good ?T ?h ?_); (case T => assumption); (case h => walk_at "hp"))
  | ((with_reducible refine' i_set_Reader_good ?T ?h ?_); (case T => assumption); (case h => walk_at "hp"))
  | ((with_reducible refine' x_set_Files_disk ?T ?h ?_); (case T => assumption); (case h => walk_at "hp"))
  | ((with_reducible refine' i_set_Files_disk ?T ?h ?_); (case T => assumption); (case h => walk_at "hp"))
  | ((with_reducible refine' x_set_Files_state ?T ?h ?_); (case T => assumption); (case h => walk_at "hp"))
  | ((with_reducible refine' i_set_Files_state ?T ?h ?_); (case T => assumption); (case h => walk_at "hp"))
  | ((with_reducible refine' x_set_Files_kept ?T ?h ?_); (case T => assumption); (case h => walk_at "hp"))
  | ((with_reducible refine' i_set_Files_kept ?T ?h ?_); (case T => assumption); (case h => walk_at "hp"))
  | ((with_reducible refine' x_set_Files_slot ?T ?h ?_); (case T => assumption); (case h => walk_at "hp"))
  | ((with_reducible refine' i_set_Files_slot ?T ?h ?_); (case T => assumption); (case h => walk_at "hp"))
  | ((with_reducible refine' x_set_Files_turn ?T ?h ?_); (case T => assumption); (case h => walk_at "hp"))
  | ((with_reducible refine' i_set_Files_turn ?T ?h ?_); (case T => assumption); (case h => walk_at "hp"))
  | ((with_reducible refine' x_set_Files_used ?T ?h ?_); (case T => assumption); (case h => walk_at "hp"))
  | ((with_reducible refine' i_set_Files_used ?T ?h ?_); (case T => assumption); (case h => walk_at "hp"))
  | ((with_reducible refine' x_set_Files_is_new ?T ?h ?_); (case T => assumption); (case h => walk_at "hp"))
  | ((with_reducible refine' i_set_Files_is_new ?T ?h ?_); (case T => assumption); (case h => walk_at "hp")))
local macro_rules | `(tactic| walk_at "go1") => `(tactic| first
  | ((with_reducible refine w_var (v := ?vv) ?e ?_); (case e => rfl))
  | ((with_reducible walk_at "get"); (case T => assumption); (case h => walk_at "hp"))
  | (with_reducible refine x_bl ?_)
  | (with_reducible refine x_isN ?_) | (with_reducible refine x_notN ?_) | (with_reducible refine x_eqI ?_) | (with_reducible refine x_neI ?_) | (with_reducible refine x_eqS ?_) | (with_reducible refine x_neS ?_)
  | (with_reducible refine x_addI ?_) | (with_reducible refine x_subI ?_) | (with_reducible refine x_ltI ?_) | (with_reducible refine x_leI ?_) | (with_reducible refine x_gtI ?_) | (with_reducible refine x_geI ?_)
  | (with_reducible refine x_bv ?_) | (with_reducible refine x_part ?_) | (with_reducible refine x_neg ?_) | (with_reducible refine x_inS ?_)
  | (walk_at "set")
  | ((with_reducible refine' x_bmL ?h ?_); (case h => walk_at "hp")) | ((with_reducible refine' x_bmL0 ?h ?_); (case h => walk_at "hp")))
local macro_rules | `(tactic| walk_at "go") => `(tactic| ((try with_reducible (conv => whnf)); repeat ((walk_at "go1"); (try with_reducible (conv => whnf)))))
theorem snaps_in {K : PySem.W.Frag} {H : Hp} {a : Addr} {L : Sn} {z : Str} (h : SnapsAt K H a L) : ∃ kvs, H a = some (.dK kvs) ∧ kvs.length = L.length ∧ (valV kvs (Sum.inr z)).isSome = (lk L z).isSome := by
  obtain ⟨kvs, ha, p⟩ := h
  have g := kv_get (k := Sum.inr) (F := fun v S => ∃ s, v = .ref s ∧ StateAt K H s S) (fun _ _ => inr_inj) (j := z) p
  refine ⟨kvs, ha, Paired.len p, ?_⟩
  cases e : lk L z with
  | none =>
    rw [g.2 e]
    rfl
  | some t =>
    obtain ⟨v, e1, _⟩ := g.1 t e
    rw [e1]
    rfl
/-! ### need_snap -/
def needS (L : Sn) (z : Str) : Except Str St := if isName z = true then (match lk L z with
  | none => .error "NoThing"
  | some S => .ok S) else .error "BadName"
def sp_Files_need_snap (K : PySem.W.Frag) : Sp := fun vs H Q E => ∃ (f : Addr) (ms : List Addr) (dv : V) (F : Fs) (z : Str), vs = [.ref f, .str z] ∧ FilesAt K ms H f dv F ∧ z.length ≤ 100000 ∧ (∀ x, needS F.L z = .error x → ∀ H', Same H H' → Exn K E x H') ∧ (∀ S, needS F.L z = .ok S → ∀ H', Same H H' → Q .non H')
def t_Files_need_snap (K : PySem.W.Frag) (W : WX) : TS := uSeq (uDrop (uCallW (sp_need_name K) W (uCons (tVar 1) uNil)))
    (uIfS (uTest (uDNotIn (tVar 1) (uFld K (tVar 0) "kept"))) (uRaiseW W (He.ga K "NoThing")) uNext)
theorem pure_Files_need_snap {K : PySem.W.Frag} (T : PxFiles K) {vs : List V} {H : Hp} {Q : VK} {E : XK} (h : sp_Files_need_snap K vs H Q E) : t_Files_need_snap K (WE1 E) (fin Q) (start ["self", "name"] vs) H := by
  obtain ⟨f, ms, dv, F, z, rfl, ⟨dx, st, kp, us, h1, h2, h3, h4⟩, hz, qe, qo⟩ := h
  obtain ⟨kvs, hk, _, hin⟩ := snaps_in (z := z) (h3.same (av_same ms H))
  show t_Files_need_snap K _ (fin Q) [some (.ref f), some (.str z)] H
  unfold t_Files_need_snap
  walk_at "go"
  refine ⟨z, rfl, hz, fun en H1 s1 => ?_, fun en H1 s1 => qe _ (by unfold needS; rw [if_neg (by rw [en]; decide)]) _ s1⟩
  have g1 := s1 _ _ h1
  walk_at "go"
  refine x_dni (.inl (s1 _ _ hk)) (k := Sum.inr z) rfl hin ?_
  walk_at "go"
  cases e : lk F.L z with
  | none =>
    refine x_ifT rfl ?_
    walk_at "go"
    exact qe _ (by unfold needS; rw [if_pos en, e]) _ s1
  | some S =>
    refine x_ifF rfl ?_
    walk_at "go"
    exact qo S (by unfold needS; rw [if_pos en, e]) _ s1
/-! ### snap -/
def snapD (F : Fs) (count : Nat) (z : Str) : Dr := if isName z = true then (if (lk F.L z).isSome = true then .error "IsThere" else if F.L.length = 3 then .error "TooGreat" else become F count F.S (pt F.L z F.S) none) else .error "BadName"
def unsnapD (F : Fs) (count : Nat) (z : Str) : Dr := match needS F.L z with
  | .error x => .error x
  | .ok _ => become F count F.S (dp F.L z) none
theorem wn_put {L : Sn} (w : Wn L) (hl : L.length ≤ 9) {z : Str} (hz : z.length ≤ 60) {S : St} (ws : Ws S) : Wn (pt L z S) := ⟨nd_pt _ w.kd, by have := pt_len_le L z S; omega, fun x hx => by
  rcases mem_pt hx with rfl | ⟨hx, _⟩
  · exact hz
  · exact w.nl x hx, fun x hx => by
  rcases mem_pt hx with rfl | ⟨hx, _⟩
  · exact ws
  · exact w.ws x hx⟩
theorem wn_del {L : Sn} (w : Wn L) (z : Str) : Wn (dp L z) := ⟨nd_dp w.kd, Nat.le_trans (dp_len_le _ _) w.ln, fun x hx => w.nl x (mem_dp.mp hx).1, fun x hx => w.ws x (mem_dp.mp hx).1⟩
theorem not_ms {ms : List Addr} {H : Hp} (mS : ∀ a ∈ ms, (H a).isSome = true) {a : Addr} (h : H a = none) : a ∉ ms := fun z => by
  have := mS a z
  rw [h] at this
  cases this
def sp_Files_snap (K : PySem.W.Frag) : Sp := fun vs H Q E => ∃ (f : Addr) (z : Str), vs = [.ref f, .str z] ∧ z.length ≤ 100000 ∧ DeedC K f H Q E fun F c => snapD F c z
def t_Files_snap (K : PySem.W.Frag) (W : WX) : TS := uSeq (uDrop (uMethW (He.ga K "Files") "may_write" (sp_Files_may_write K) W (tVar 0) uNil))
    (uSeq (uDrop (uCallW (sp_need_name K) W (uCons (tVar 1) uNil)))
    (uSeq (uIfS (uTest (uDIn (tVar 1) (uFld K (tVar 0) "kept"))) (uRaiseW W (He.ga K "IsThere")) uNext)
    (uSeq (uIfS (uTest (uOp rEq (uCB cLenD (uCons (uFld K (tVar 0) "kept") uNil)) (uC (.int 3)))) (uRaiseW W (He.ga K "TooGreat")) uNext)
    (uSeq (uAsg (uCB cDictD (uCons (uFld K (tVar 0) "kept") uNil)) (vName 2))
    (uSeq (uDPut (tVar 2) (tVar 1) (uCallW (sp_copied K) W (uCons (uFld K (tVar 0) "state") uNil)))
    (uDrop (uMethW (He.ga K "Files") "become" (sp_Files_become K) W (tVar 0) (uCons (uFld K (tVar 0) "state") (uCons (tVar 2) uNil)))))))))
theorem pure_Files_snap {K : PySem.W.Frag} (T : PxFiles K) {vs : List V} {H : Hp} {Q : VK} {E : XK} (h : sp_Files_snap K vs H Q E) : t_Files_snap K (WE1 E) (fin Q) (start ["self", "name", "snaps"] vs) H := by
  obtain ⟨f, z, rfl, hz, h⟩ := h
  show t_Files_snap K _ (fin Q) [some (.ref f), some (.str z), none] H
  unfold t_Files_snap
  walk_at "go"
  rcases h with ⟨ms, F, FA, q⟩ | ⟨d, bl, lg, ms, F, B, Lg, fm, mS, FA, D, W, wN, qe, qo⟩
  · obtain ⟨dx, s0, kp0, us, h1, h2, h3, h4⟩ := id FA.o
    refine x_meth_Files_may_write h1 ?_
    walk_at "go"
    refine ⟨f, ms, .non, F, rfl, FA, ?_⟩
    rw [if_pos rfl]
    exact q
  dsimp only at qe qo
  have wn := wN.wn
  obtain ⟨dx, s0, kp0, us, h1, h2, h3, h4⟩ := id FA.o
  have avs := av_same ms H
  have hS := h2.same avs
  have wl := W.len
  refine x_meth_Files_may_write h1 ?_
  walk_at "go"
  refine ⟨f, ms, .ref d, F, rfl, FA, ?_⟩
  rw [if_neg (by intro z; cases z)]
  intro H1 s1
  walk_at "go"
  refine ⟨z, rfl, hz, fun en H2 s2 => ?_, fun en H2 s2 => qe _ (by unfold snapD; rw [if_neg (by rw [en]; decide)]) _ (s1.trans s2)⟩
  have em : snapD F B.length z = if (lk F.L z).isSome = true then .error "IsThere" else if F.L.length = 3 then .error "TooGreat" else become F B.length F.S (pt F.L z F.S) none := by unfold snapD; rw [if_pos en]
  have s02 := s1.trans s2
  obtain ⟨kvs, hk, lkv, hin⟩ := snaps_in (z := z) ((h3.same avs).same s02)
  have g2 := s02 _ _ h1
  walk_at "go"
  refine x_din (.inl hk) (k := Sum.inr z) rfl hin ?_
  walk_at "go"
  cases e : (lk F.L z).isSome with
  | true =>
    refine x_ifT rfl ?_
    walk_at "go"
    exact qe _ (by rw [em, if_pos e]) _ s02
  | false =>
  rw [if_neg (by rw [e]; decide)] at em
  refine x_ifF rfl ?_
  walk_at "go"
  refine x_lenD hk ?_
  rw [lkv]
  walk_at "go"
  by_cases e3 : F.L.length = 3
  · refine x_ifT (decide_eq_true (by omega)) ?_
    walk_at "go"
    exact qe _ (by rw [em, if_pos e3]) _ s02
  rw [if_neg e3] at em
  refine x_ifF (decide_eq_false (by omega)) ?_
  walk_at "go"
  refine x_dictD (.inl hk) fun k2 H3 nk hk2 s3 => ?_
  have s03 := s02.trans s3
  have g3 := s03 _ _ h1
  walk_at "go"
  refine ⟨s0, F.S, rfl, hS.same s03, W.kd, by omega, fun s X H4 eX O s4 => ?_⟩
  walk_at "go"
  have hk4 := s4 _ _ hk2
  have wn10 := wn.ln
  refine x_dput hk4 (by omega) (k := Sum.inr z) rfl ?_
  have nk0 : H k2 = none := s02.free nk
  have sX : Same H (upd H4 k2 (.dK (putK kvs (Sum.inr z) (.ref s)))) := updNew nk0 (s03.trans s4)
  have hk5 : (upd H4 k2 (.dK (putK kvs (Sum.inr z) (.ref s)))) k2 = some (.dK (putK kvs (Sum.inr z) (.ref s))) := upd_same
  have O5 : OwnAt K (nw H3 (upd H4 k2 (.dK (putK kvs (Sum.inr z) (.ref s))))) s X := O.same fun a o ho => by
    obtain ⟨f3, f4⟩ := nw_none ho
    refine nw_new f3 ?_
    rw [upd_ne (fun z => by rw [z, hk2] at f3; cases f3)]
    exact f4
  generalize upd H4 k2 (.dK (putK kvs (Sum.inr z) (.ref s))) = H5 at sX hk5 O5
  have g5 := sX _ _ h1
  walk_at "go"
  refine x_meth_Files_become g5 ?_
  walk_at "go"
  have sA := same_avs (ms := ms) sX
  have hSn : StateAt K (av ms H5) s F.S := own_av mS s03 O5 eX
  have hL : SnapsAt K (av ms H5) k2 (pt F.L z F.S) := by
    obtain ⟨kvs', hk', pk'⟩ := h3.same sA
    have ek : kvs' = kvs := by
      have h6 := (av_of hk').2
      obtain ⟨kv0, e0, _⟩ := h3
      have h8 := s02 _ _ (avs _ _ e0)
      have h9 := sX _ _ (avs _ _ e0)
      rw [hk] at h8
      rw [h6] at h9
      cases h8
      cases h9
      rfl
    subst ek
    refine ⟨_, av_at hk5 (not_ms mS nk0), ?_⟩
    exact kv_put (k := Sum.inr) (F := fun v S => ∃ s, v = .ref s ∧ StateAt K (av ms H5) s S) (fun _ _ => inr_inj) pk' ⟨s, rfl, hSn⟩
  refine become_at (a := none) fm FA D sX (h2.same sA) hL W.wg.ws (wn_put wn (by have := wN.ln; omega) (by have := (name_ok en).2; omega) W.wg.ws) (fun e => qe _ (by rw [em, e])) fun e H6 k6 FA6 => ?_
  walk_at "go"
  exact qo _ (by rw [em, e]) _ k6 FA6
/-! ### unsnap -/
def sp_Files_unsnap (K : PySem.W.Frag) : Sp := fun vs H Q E => ∃ (f : Addr) (z : Str), vs = [.ref f, .str z] ∧ z.length ≤ 100000 ∧ DeedC K f H Q E fun F c => unsnapD F c z
def t_Files_unsnap (K : PySem.W.Frag) (W : WX) : TS := uSeq (uDrop (uMethW (He.ga K "Files") "may_write" (sp_Files_may_write K) W (tVar 0) uNil))
    (uSeq (uDrop (uMethW (He.ga K "Files") "need_snap" (sp_Files_need_snap K) W (tVar 0) (uCons (tVar 1) uNil)))
    (uSeq (uAsg (uCB cDictD (uCons (uFld K (tVar 0) "kept") uNil)) (vName 2))
    (uSeq (uDrop (uDPop1 (tVar 2) (tVar 1)))
    (uDrop (uMethW (He.ga K "Files") "become" (sp_Files_become K) W (tVar 0) (uCons (uFld K (tVar 0) "state") (uCons (tVar 2) uNil)))))))
theorem pure_Files_unsnap {K : PySem.W.Frag} (T : PxFiles K) {vs : List V} {H : Hp} {Q : VK} {E : XK} (h : sp_Files_unsnap K vs H Q E) : t_Files_unsnap K (WE1 E) (fin Q) (start ["self", "name", "snaps"] vs) H := by
  obtain ⟨f, z, rfl, hz, h⟩ := h
  show t_Files_unsnap K _ (fin Q) [some (.ref f), some (.str z), none] H
  unfold t_Files_unsnap
  walk_at "go"
  rcases h with ⟨ms, F, FA, q⟩ | ⟨d, bl, lg, ms, F, B, Lg, fm, mS, FA, D, W, wN, qe, qo⟩
  · obtain ⟨dx, s0, kp0, us, h1, h2, h3, h4⟩ := id FA.o
    refine x_meth_Files_may_write h1 ?_
    walk_at "go"
    refine ⟨f, ms, .non, F, rfl, FA, ?_⟩
    rw [if_pos rfl]
    exact q
  dsimp only at qe qo
  have wn := wN.wn
  obtain ⟨dx, s0, kp0, us, h1, h2, h3, h4⟩ := id FA.o
  have avs := av_same ms H
  refine x_meth_Files_may_write h1 ?_
  walk_at "go"
  refine ⟨f, ms, .ref d, F, rfl, FA, ?_⟩
  rw [if_neg (by intro z; cases z)]
  intro H1 s1
  walk_at "go"
  refine x_meth_Files_need_snap (s1 _ _ h1) ?_
  walk_at "go"
  refine ⟨f, ms, .ref d, F, z, rfl, FA.same s1, hz, fun x e H2 s2 => qe _ (by unfold unsnapD; rw [e]) _ (s1.trans s2), fun S0 e H2 s2 => ?_⟩
  have em : unsnapD F B.length z = become F B.length F.S (dp F.L z) none := by unfold unsnapD; rw [e]
  have hin : ∃ S, lk F.L z = some S := by
    unfold needS at e
    split at e
    · split at e
      · cases e
      · rename_i S eS
        exact ⟨S, eS⟩
    · cases e
  obtain ⟨S1, eS1⟩ := hin
  have s02 := s1.trans s2
  obtain ⟨kvs, hk, pk⟩ := id h3
  have hk2 := s02 _ _ (avs _ _ hk)
  have g2 := s02 _ _ h1
  walk_at "go"
  refine x_dictD (.inl hk2) fun k2 H3 nk hk3 s3 => ?_
  have s03 := s02.trans s3
  walk_at "go"
  refine ⟨k2, rfl, .inl ⟨_, .inl hk3⟩, ?_⟩
  walk_at "go"
  obtain ⟨v, ev, _⟩ := (kv_get (k := Sum.inr) (F := fun v S => ∃ s, v = .ref s ∧ StateAt K (av ms H) s S) (fun _ _ => inr_inj) (j := z) pk).1 _ eS1
  refine ⟨kvs, Sum.inr z, v, hk3, rfl, ev, ?_⟩
  have nk0 : H k2 = none := s02.free nk
  have sX : Same H (upd H3 k2 (.dK (dropK kvs (Sum.inr z)))) := updNew nk0 s03
  have hk5 : (upd H3 k2 (.dK (dropK kvs (Sum.inr z)))) k2 = some (.dK (dropK kvs (Sum.inr z))) := upd_same
  generalize upd H3 k2 (.dK (dropK kvs (Sum.inr z))) = H5 at sX hk5
  have g5 := sX _ _ h1
  walk_at "go"
  refine x_meth_Files_become g5 ?_
  walk_at "go"
  have sA := same_avs (ms := ms) sX
  have hL : SnapsAt K (av ms H5) k2 (dp F.L z) :=
    ⟨_, av_at hk5 (not_ms mS nk0), kv_drop (k := Sum.inr) (fun _ _ => inr_inj) (kv_mono (fun _ _ ⟨b, e1, e2⟩ => ⟨b, e1, e2.same sA⟩) pk)⟩
  refine become_at (a := none) fm FA D sX (h2.same sA) hL W.wg.ws (wn_del wn z) (fun e => qe _ (by rw [em, e])) fun e H6 k6 FA6 => ?_
  walk_at "go"
  exact qo _ (by rw [em, e]) _ k6 FA6
/-! ### see -/
def viewF (S : St) (L : Sn) : Fs := ⟨S, L, 0, 1, [], false⟩
def sp_Files_see (K : PySem.W.Frag) : Sp := fun vs H Q E => ∃ (f : Addr) (ms : List Addr) (dv : V) (F : Fs) (z : Str), vs = [.ref f, .str z] ∧ FilesAt K ms H f dv F ∧ (∀ a ∈ ms, (H a).isSome = true) ∧ Wn F.L ∧ z.length ≤ 100000 ∧
  (∀ x, needS F.L z = .error x → ∀ H', Same H H' → Exn K E x H') ∧ (∀ S, needS F.L z = .ok S → ∀ g H', H g = none → Same H H' → FilesAt K ms H' g .non (viewF S F.L) → Q (.ref g) H')
def t_Files_see (K : PySem.W.Frag) (W : WX) : TS := uSeq (uDrop (uMethW (He.ga K "Files") "need_snap" (sp_Files_need_snap K) W (tVar 0) (uCons (tVar 1) uNil)))
    (uRet (uMakeW (He.ga K "Files") (sp_Files___init__ K) W (uCons (uC .non) (uCons (uCallW (sp_copied K) W (uCons (uDGet (uFld K (tVar 0) "kept") (tVar 1)) uNil)) (uCons (uCB cDictD (uCons (uFld K (tVar 0) "kept") uNil)) uNil)))))
theorem pure_Files_see {K : PySem.W.Frag} (T : PxFiles K) {vs : List V} {H : Hp} {Q : VK} {E : XK} (h : sp_Files_see K vs H Q E) : t_Files_see K (WE1 E) (fin Q) (start ["self", "name"] vs) H := by
  obtain ⟨f, ms, dv, F, z, rfl, FA, mS, wn, hz, qe, qo⟩ := h
  obtain ⟨dx, s0, kp0, us, h1, h2, h3, h4⟩ := id FA.o
  have avs := av_same ms H
  show t_Files_see K _ (fin Q) [some (.ref f), some (.str z)] H
  unfold t_Files_see
  walk_at "go"
  refine x_meth_Files_need_snap h1 ?_
  walk_at "go"
  refine ⟨f, ms, dv, F, z, rfl, FA, hz, fun x e H2 s2 => qe _ e _ s2, fun S e H1 s1 => ?_⟩
  have eS : lk F.L z = some S := by
    unfold needS at e
    split at e
    · split at e
      · cases e
      · rename_i S eS
        cases e
        exact eS
    · cases e
  have g1 := s1 _ _ h1
  obtain ⟨kvs, a, hk, hv, hSa⟩ := snaps_get (h3.same avs) eS
  walk_at "go"
  refine x_dget (.inl (s1 _ _ hk)) (k := Sum.inr z) rfl hv ?_
  walk_at "go"
  have ws := wn.ws _ (lk_mem eS)
  refine ⟨a, S, rfl, hSa.same s1, ws.kd, by have := ws.sl; simp only at this; omega, fun s X H2 eX O s2 => ?_⟩
  have s02 := s1.trans s2
  have g2 := s02 _ _ h1
  walk_at "go"
  refine x_dictD (.inl (s02 _ _ hk)) fun k2 H3 nk hk2 s3 => ?_
  walk_at "go"
  refine x_make fun g dx2 H4 ng hg s4 => ?_
  refine ⟨g, dx2, _, _, _, rfl, hg, fun us2 H5 nus k5 hg5 hus => ⟨rfl, ?_⟩⟩
  have s5 : Same H3 H5 := keepNew (fun x hx => by rw [List.mem_singleton.mp hx]; exact ng) s4 k5
  have s05 := (s02.trans s3).trans s5
  have sA := same_avs (ms := ms) s05
  refine qo S e g H5 ((s02.trans s3).free ng) s05 ⟨⟨dx2, s, k2, us2, hg5, ?_, ?_, ?_⟩⟩
  · exact own_av mS s1 (O.same (nw_sameR (Same.refl H1) (s3.trans s5))) eX
  · obtain ⟨kvs', hk', pk'⟩ := h3
    have : kvs' = kvs := by
      have := avs _ _ hk'
      rw [hk] at this
      cases this
      rfl
    subst this
    exact ⟨kvs', av_at (s5 _ _ hk2) (not_ms mS (s02.free nk)), kv_mono (fun _ _ ⟨b, e1, e2⟩ => ⟨b, e1, e2.same sA⟩) pk'⟩
  · exact av_at hus (not_ms mS ((s02.trans s3).free (s4.free nus)))
end SP

set_option Elab.async false
set_option linter.all false
set_option maxRecDepth 100000
set_option maxHeartbeats 4000000
/-! Deeds keep states whole. -/
namespace SP
open PySem PySem.Spec PyProof.Rows L2
/-! ### counts of entries -/
section
variable {α : Type} {f : α → Nat}
theorem sum_map_pt {κ β : Type} [DecidableEq κ] {l : List (κ × β)} {k : κ} {u v : β} (g : β → Nat) (nd : (l.map (·.1)).Nodup) (h : lk l k = some u) : ((pt l k v).map fun x => g x.2).sum + g u = (l.map fun x => g x.2).sum + g v := by
  rw [pt_old v h]
  induction l with
  | nil => cases h
  | cons x r ih =>
    obtain ⟨a, b⟩ := x
    rw [List.map_cons, List.nodup_cons] at nd
    rw [lk_cons] at h
    by_cases e : a = k
    · subst e
      rw [if_pos rfl] at h
      cases h
      have hr : (r.map fun kv => if kv.1 = a then (kv.1, v) else kv) = r := by
        refine (List.map_congr_left fun y hy => ?_).trans (List.map_id r)
        show (if y.1 = a then (y.1, v) else y) = y
        rw [if_neg]
        intro z
        exact nd.1 (List.mem_map.mpr ⟨y, hy, z⟩)
      rw [List.map_cons, List.map_cons, hr, List.sum_cons, List.map_cons, List.sum_cons]
      simp only [if_pos rfl]
      show g v + _ + g u = g u + _ + g v
      omega
    · rw [if_neg e] at h
      have := ih nd.2 h
      rw [List.map_cons, List.map_cons, List.sum_cons, List.map_cons, List.sum_cons]
      simp only [if_neg e]
      show g b + _ + g u = g b + _ + g v
      omega
theorem sum_map_new {κ β : Type} [DecidableEq κ] {l : List (κ × β)} {k : κ} {v : β} (g : β → Nat) (h : lk l k = none) : ((pt l k v).map fun x => g x.2).sum = (l.map fun x => g x.2).sum + g v := by
  rw [pt_new v h, List.map_append, List.sum_append]
  rfl
theorem sum_map_dp {κ β : Type} [DecidableEq κ] {l : List (κ × β)} {k : κ} {u : β} (g : β → Nat) (nd : (l.map (·.1)).Nodup) (h : lk l k = some u) : ((dp l k).map fun x => g x.2).sum + g u = (l.map fun x => g x.2).sum := by
  induction l with
  | nil => cases h
  | cons x r ih =>
    obtain ⟨a, b⟩ := x
    rw [List.map_cons, List.nodup_cons] at nd
    rw [lk_cons] at h
    by_cases e : a = k
    · subst e
      rw [if_pos rfl] at h
      cases h
      have z : dp ((a, u) :: r) a = r := by
        unfold dp
        rw [List.filter_cons, if_neg (by simp)]
        have := dp_none (l := r) (k := a) (lk_none.mpr nd.1)
        unfold dp at this
        exact this
      rw [z, List.map_cons, List.sum_cons]
      exact Nat.add_comm _ _
    · rw [if_neg e] at h
      have := ih nd.2 h
      have z : dp ((a, b) :: r) k = (a, b) :: dp r k := by
        unfold dp
        rw [List.filter_cons, if_pos (by simp [e])]
      rw [z, List.map_cons, List.sum_cons, List.map_cons, List.sum_cons]
      omega
end
def one_ (b : Bool) : Nat := if b then 1 else 0
theorem cnt_sum (n : Int) (es : List (Str × Int)) : (es.map (·.2)).count n = (es.map fun x => one_ (decide (x.2 = n))).sum := by
  induction es with
  | nil => rfl
  | cons x r ih =>
    rw [List.map_cons, List.count_cons, ih, List.map_cons, List.sum_cons]
    unfold one_
    by_cases h : x.2 = n
    · rw [h]; simp; omega
    · simp [h]
def cntE (n : Int) (es : List (Str × Int)) : Nat := (es.map (·.2)).count n
theorem cntE_new {n i : Int} {z : Str} {es : List (Str × Int)} (h : lk es z = none) : cntE n (pt es z i) = cntE n es + one_ (decide (i = n)) := by
  unfold cntE
  rw [cnt_sum, cnt_sum]
  exact sum_map_new (fun j => one_ (decide (j = n))) h
theorem cntE_old {n i j : Int} {z : Str} {es : List (Str × Int)} (nd : (es.map (·.1)).Nodup) (h : lk es z = some j) : cntE n (pt es z i) + one_ (decide (j = n)) = cntE n es + one_ (decide (i = n)) := by
  unfold cntE
  rw [cnt_sum, cnt_sum]
  exact sum_map_pt (fun j => one_ (decide (j = n))) nd h
theorem cntE_dp {n j : Int} {z : Str} {es : List (Str × Int)} (nd : (es.map (·.1)).Nodup) (h : lk es z = some j) : cntE n (dp es z) + one_ (decide (j = n)) = cntE n es := by
  unfold cntE
  rw [cnt_sum, cnt_sum]
  exact sum_map_dp (fun j => one_ (decide (j = n))) nd h
theorem links_pt {S : St} {k n : Int} {t u : Th} (nd : (S.map (·.1)).Nodup) (h : lk S k = some u) : linksN (pt S k t) n + cntT n u = linksN S n + cntT n t := sum_map_pt (fun t => cntT n t) nd h
theorem links_new {S : St} {k n : Int} {t : Th} (h : lk S k = none) : linksN (pt S k t) n = linksN S n + cntT n t := sum_map_new (fun t => cntT n t) h
theorem links_dp {S : St} {k n : Int} {u : Th} (nd : (S.map (·.1)).Nodup) (h : lk S k = some u) : linksN (dp S k) n + cntT n u = linksN S n := sum_map_dp (fun t => cntT n t) nd h
theorem cnt_nil {t : Th} (h : t.ents = []) (n : Int) : cntT n t = 0 := by
  unfold cntT
  rw [h]
  rfl
theorem links_entry {S : St} {n k : Int} {t : Th} {z : Str} (h : lk S k = some t) (hm : (z, n) ∈ t.ents) : 1 ≤ linksN S n := Nat.le_trans (cnt_pos hm) (le_sumN (f := fun y : Int × Th => cntT n y.2) (lk_mem h))
theorem links_zero {S : St} {n : Int} (h : linksN S n = 0) {k : Int} {t : Th} {z : Str} (e : lk S k = some t) : (z, n) ∉ t.ents := fun hm => by
  have := links_entry e hm
  omega
/-! ### the parts of wholeness -/
structure Base (S : St) : Prop where
  kd : (S.map (·.1)).Nodup
  kr : ∀ n t, lk S n = some t → 0 ≤ n ∧ n < 32
  rt : isDir S 0
  th : ∀ n t, lk S n = some t → OkT t
  cl : ∀ n t e, lk S n = some t → e ∈ t.ents → e.2 ≠ 0 ∧ (lk S e.2).isSome = true
def Rk (S : St) (r : Int → Nat) : Prop := ∀ n t e, lk S n = some t → e ∈ t.ents → isDir S e.2 → r n < r e.2
def One (S : St) : Prop := ∀ n, n ≠ 0 → isDir S n → linksN S n = 1
def Rf (S : St) : Prop := ∀ n t, lk S n = some t → t.dir = false → 1 ≤ linksN S n
theorem mem_lk {S : St} (nd : (S.map (·.1)).Nodup) {x : Int × Th} (h : x ∈ S) : lk S x.1 = some x.2 := lk_of_mem nd h
theorem Whole.base {S : St} (W : Whole S) : Base S := ⟨W.kd, fun n t e => W.kr _ (lk_mem e), W.rt, fun n t e => W.th _ (lk_mem e), fun n t e h hm => W.cl _ (lk_mem h) _ hm⟩
theorem Whole.rk {S : St} (W : Whole S) : ∃ r, Rk S r := by
  obtain ⟨r, h⟩ := W.up
  exact ⟨r, fun n t e el hm hd => h _ (lk_mem el) _ hm hd⟩
theorem whole_of {S : St} {r : Int → Nat} (b : Base S) (hr : Rk S r) (h1 : One S) (h2 : Rf S) : Whole S :=
  ⟨b.kd, fun x hx => b.kr _ _ (mem_lk b.kd hx), b.rt, fun x hx => b.th _ _ (mem_lk b.kd hx), fun x hx e he => b.cl _ _ _ (mem_lk b.kd hx) he, ⟨r, fun x hx e he hd => hr _ _ _ (mem_lk b.kd hx) he hd⟩, h1, h2⟩
/-- entries put anew in a directory -/
structure OkE (S : St) (es : List (Str × Int)) : Prop where
  kd : (es.map (·.1)).Nodup
  el : es.length ≤ 40
  nm : ∀ e ∈ es, isName e.1 = true
  tg : ∀ e ∈ es, e.2 ≠ 0 ∧ (lk S e.2).isSome = true
theorem isDir_ents {S : St} {pl n : Int} {t : Th} {es : List (Str × Int)} (e : lk S pl = some t) : isDir (pt S pl { t with ents := es }) n ↔ isDir S n := by
  unfold isDir
  rw [lk_pt]
  by_cases h : n = pl
  · subst h
    rw [if_pos rfl, e]
    exact ⟨fun ⟨u, h, d⟩ => ⟨t, rfl, by cases h; exact d⟩, fun ⟨u, h, d⟩ => ⟨_, rfl, by cases h; exact d⟩⟩
  · rw [if_neg h]
theorem some_pt {S : St} {pl n : Int} {t : Th} (h : (lk S n).isSome = true) : (lk (pt S pl t) n).isSome = true := by
  rw [lk_pt]
  split
  · rfl
  · exact h
theorem Base.ents {S : St} (b : Base S) {pl : Int} {t : Th} {es : List (Str × Int)} (e : lk S pl = some t) (hd : t.dir = true) (h : OkE S es) : Base (pt S pl { t with ents := es }) := by
  have ot := b.th _ _ e
  refine ⟨nd_pt _ b.kd, fun n u eu => ?_, (isDir_ents e).mpr b.rt, fun n u eu => ?_, fun n u x eu hx => ?_⟩
  · rw [lk_pt] at eu
    split at eu
    · rename_i q; subst q; exact b.kr _ _ e
    · exact b.kr _ _ eu
  · rw [lk_pt] at eu
    split at eu
    · cases eu
      exact ⟨ot.dh, fun z => (nomatch (hd.symm.trans z)), h.kd, h.el, ot.hl, h.nm, ot.by_⟩
    · exact b.th _ _ eu
  · rw [lk_pt] at eu
    split at eu
    · cases eu
      exact ⟨(h.tg x hx).1, some_pt (h.tg x hx).2⟩
    · obtain ⟨h1, h2⟩ := b.cl _ _ _ eu hx
      exact ⟨h1, some_pt h2⟩
theorem Base.oke {S : St} (b : Base S) {pl : Int} {t : Th} (e : lk S pl = some t) : OkE S t.ents := ⟨(b.th _ _ e).kd, (b.th _ _ e).el, (b.th _ _ e).nm, fun x hx => b.cl _ _ _ e hx⟩
theorem OkE.put {S : St} {es : List (Str × Int)} (h : OkE S es) {z : Str} {n : Int} (hz : isName z = true) (n0 : n ≠ 0) (hn : (lk S n).isSome = true) (hl : (pt es z n).length ≤ 40) : OkE S (pt es z n) := ⟨nd_pt _ h.kd, hl, fun e he => by
  rcases mem_pt he with rfl | ⟨he, _⟩
  · exact hz
  · exact h.nm e he, fun e he => by
  rcases mem_pt he with rfl | ⟨he, _⟩
  · exact ⟨n0, hn⟩
  · exact h.tg e he⟩
theorem OkE.drop {S : St} {es : List (Str × Int)} (h : OkE S es) (z : Str) : OkE S (dp es z) := ⟨nd_dp h.kd, Nat.le_trans (dp_len_le _ _) h.el, fun e he => h.nm e (mem_dp.mp he).1, fun e he => h.tg e (mem_dp.mp he).1⟩
theorem OkE.mono {S S' : St} {es : List (Str × Int)} (h : OkE S es) (m : ∀ n, (lk S n).isSome = true → (lk S' n).isSome = true) : OkE S' es := ⟨h.kd, h.el, h.nm, fun e he => ⟨(h.tg e he).1, m _ (h.tg e he).2⟩⟩
theorem Base.del {S : St} (b : Base S) {n : Int} (n0 : n ≠ 0) (h : linksN S n = 0) : Base (dp S n) := by
  have hl : ∀ {m u}, lk (dp S n) m = some u → lk S m = some u ∧ m ≠ n := fun eu => by
    rw [lk_dp] at eu
    split at eu
    · cases eu
    · exact ⟨eu, by assumption⟩
  refine ⟨nd_dp b.kd, fun m u eu => b.kr _ _ (hl eu).1, ?_, fun m u eu => b.th _ _ (hl eu).1, fun m u x eu hx => ?_⟩
  · obtain ⟨t, e, d⟩ := b.rt
    exact ⟨t, by rw [lk_dp, if_neg (Ne.symm n0), e], d⟩
  · obtain ⟨h1, h2⟩ := b.cl _ _ _ (hl eu).1 hx
    refine ⟨h1, ?_⟩
    rw [lk_dp, if_neg]
    · exact h2
    · intro z
      exact links_zero h (hl eu).1 (z := x.1) (by rw [← z]; exact hx)
theorem isDir_dp {S : St} {n m : Int} (h : isDir (dp S n) m) : isDir S m ∧ m ≠ n := by
  obtain ⟨t, e, d⟩ := h
  rw [lk_dp] at e
  split at e
  · cases e
  · exact ⟨⟨t, e, d⟩, by assumption⟩
/-! ### a file's bytes -/
theorem Whole.held {S : St} (W : Whole S) {n : Int} {t : Th} (e : lk S n = some t) (hd : t.dir = false) {l : List Int} (hl : l.length ≤ 600) (hb : ∀ b ∈ l, 0 ≤ b ∧ b < 256) : Whole (heldS S n l) := by
  have b := W.base
  obtain ⟨r, hr⟩ := W.rk
  have en := (b.th _ _ e).fe hd
  have dir : ∀ m, isDir (heldS S n l) m ↔ isDir S m := fun m => by
    unfold isDir heldS
    rw [lk_pt]
    by_cases h : m = n
    · subst h
      rw [if_pos rfl, e]
      refine ⟨fun ⟨u, h, d⟩ => ?_, fun ⟨u, h, d⟩ => ?_⟩
      · cases h
        cases d
      · cases h
        rw [hd] at d
        cases d
    · rw [if_neg h]
  have ln : ∀ m, linksN (heldS S n l) m = linksN S m := fun m => by
    have := links_pt (t := ⟨false, l, []⟩) (n := m) W.kd e
    rw [cnt_nil en, cnt_nil rfl] at this
    exact this
  have lke : ∀ {m u}, lk (heldS S n l) m = some u → (m = n ∧ u = ⟨false, l, []⟩) ∨ (m ≠ n ∧ lk S m = some u) := fun h => by
    unfold heldS at h
    rw [lk_pt] at h
    split at h
    · cases h; exact .inl ⟨by assumption, rfl⟩
    · exact .inr ⟨by assumption, h⟩
  refine whole_of (r := r) ⟨nd_pt _ b.kd, fun m u h => ?_, (dir 0).mpr b.rt, fun m u h => ?_, fun m u x h hx => ?_⟩ (fun m u x h hx hd => ?_) (fun m m0 h => by rw [ln]; exact W.one m m0 ((dir m).mp h)) (fun m u h hu => by
    rw [ln]
    rcases lke h with ⟨rfl, rfl⟩ | ⟨_, h⟩
    · exact W.ref _ _ e hd
    · exact W.ref _ _ h hu)
  · rcases lke h with ⟨rfl, rfl⟩ | ⟨_, h⟩
    · exact b.kr _ _ e
    · exact b.kr _ _ h
  · rcases lke h with ⟨rfl, rfl⟩ | ⟨_, h⟩
    · exact ⟨fun z => (nomatch z), fun _ => rfl, List.nodup_nil, Nat.zero_le _, hl, fun _ h => (nomatch h), hb⟩
    · exact b.th _ _ h
  · rcases lke h with ⟨rfl, rfl⟩ | ⟨_, h⟩
    · cases hx
    · obtain ⟨h1, h2⟩ := b.cl _ _ _ h hx
      exact ⟨h1, some_pt h2⟩
  · rcases lke h with ⟨rfl, rfl⟩ | ⟨_, h⟩
    · cases hx
    · exact hr _ _ _ h hx ((dir _).mp hd)
/-! ### make -/
theorem lk_ents {S : St} {pl m : Int} {t u : Th} {es : List (Str × Int)} (h : lk (pt S pl { t with ents := es }) m = some u) : (m = pl ∧ u = { t with ents := es }) ∨ (m ≠ pl ∧ lk S m = some u) := by
  rw [lk_pt] at h
  split at h
  · cases h; exact .inl ⟨by assumption, rfl⟩
  · exact .inr ⟨by assumption, h⟩
theorem entS_is {S : St} {pl n : Int} {t : Th} {z : Str} (e : lk S pl = some t) : entS S pl z n = pt S pl { t with ents := pt t.ents z n } := by
  unfold entS
  rw [e]
  rfl
theorem dropS_is {S : St} {pl : Int} {t : Th} {z : Str} (e : lk S pl = some t) : dropS S pl z = pt S pl { t with ents := dp t.ents z } := by
  unfold dropS
  rw [e]
  rfl
theorem Whole.make {S : St} (W : Whole S) {pl n : Int} {t : Th} {z : Str} {b : Bool} (e : lk S pl = some t) (hd : t.dir = true) (hz : isName z = true) (hn : lk S n = none) (h0 : 0 ≤ n) (h1 : n < 32) (hl : t.ents.length < 40) (ez : lk t.ents z = none) : Whole (entS (pt S n ⟨b, [], []⟩) pl z n) := by
  have bs := W.base
  obtain ⟨r, hr⟩ := W.rk
  have npl : pl ≠ n := fun q => by rw [q, hn] at e; cases e
  have n0 : n ≠ 0 := fun q => by
    obtain ⟨u, eu, _⟩ := W.rt
    rw [q, eu] at hn
    cases hn
  have e1 : lk (pt S n ⟨b, [], []⟩) pl = some t := by rw [lk_pt, if_neg npl, e]
  have mono : ∀ m, (lk S m).isSome = true → (lk (pt S n (⟨b, [], []⟩ : Th)) m).isSome = true := fun m h => some_pt h
  have k1 : ∀ {m u}, lk (pt S n (⟨b, [], []⟩ : Th)) m = some u → (m = n ∧ u = ⟨b, [], []⟩) ∨ (m ≠ n ∧ lk S m = some u) := fun h => by
    rw [lk_pt] at h
    split at h
    · cases h; exact .inl ⟨by assumption, rfl⟩
    · exact .inr ⟨by assumption, h⟩
  have b1 : Base (pt S n ⟨b, [], []⟩) := by
    refine ⟨nd_pt _ bs.kd, fun m u h => ?_, ?_, fun m u h => ?_, fun m u x h hx => ?_⟩
    · rcases k1 h with ⟨rfl, rfl⟩ | ⟨_, h⟩
      · exact ⟨h0, h1⟩
      · exact bs.kr _ _ h
    · obtain ⟨u, eu, du⟩ := W.rt
      exact ⟨u, by rw [lk_pt, if_neg (Ne.symm n0), eu], du⟩
    · rcases k1 h with ⟨rfl, rfl⟩ | ⟨_, h⟩
      · exact ⟨fun _ => rfl, fun _ => rfl, List.nodup_nil, Nat.zero_le _, Nat.zero_le _, fun _ h => (nomatch h), fun _ h => (nomatch h)⟩
      · exact bs.th _ _ h
    · rcases k1 h with ⟨rfl, rfl⟩ | ⟨_, h⟩
      · cases hx
      · obtain ⟨g1, g2⟩ := bs.cl _ _ _ h hx
        exact ⟨g1, mono _ g2⟩
  have hn1 : (lk (pt S n (⟨b, [], []⟩ : Th)) n).isSome = true := by rw [lk_pt, if_pos rfl]; rfl
  have b2 : Base (pt (pt S n ⟨b, [], []⟩) pl { t with ents := pt t.ents z n }) := b1.ents e1 hd ((b1.oke e1).put hz n0 hn1 (by have := pt_len_le t.ents z n; omega))
  have noln : ∀ {m u x}, lk S m = some u → x ∈ u.ents → x.2 ≠ n := fun h hx q => by
    have := (bs.cl _ _ _ h hx).2
    rw [q, hn] at this
    cases this
  have l0 : linksN S n = 0 := by
    refine Nat.eq_zero_of_not_pos fun hp => ?_
    obtain ⟨x, hx, hc⟩ : ∃ x ∈ S, 0 < cntT n x.2 := by
      refine Classical.byContradiction fun hno => ?_
      have : linksN S n = 0 := List.sum_eq_zero_iff_forall_eq_nat.mpr fun y hy => by
        obtain ⟨x, hx, rfl⟩ := List.mem_map.mp hy
        refine Nat.eq_zero_of_not_pos fun h => hno ⟨x, hx, h⟩
      omega
    obtain ⟨y, hy, q⟩ := List.mem_map.mp (List.count_pos_iff.mp hc)
    exact noln (mem_lk W.kd hx) hy q
  have ln : ∀ m, linksN (pt (pt S n ⟨b, [], []⟩) pl { t with ents := pt t.ents z n }) m = linksN S m + one_ (decide (n = m)) := fun m => by
    have g1 := links_pt (t := { t with ents := pt t.ents z n }) (n := m) b1.kd e1
    have g2 := links_new (S := S) (k := n) (n := m) (t := ⟨b, [], []⟩) hn
    rw [cnt_nil rfl] at g2
    have g3 : cntT m { t with ents := pt t.ents z n } = cntT m t + one_ (decide (n = m)) := cntE_new ez
    omega
  rw [entS_is e1]
  refine whole_of (r := fun m => if m = n then r pl + 1 else r m) b2 (fun m u x h hx hdx => ?_) (fun m m0 h => ?_) (fun m u h hu => ?_)
  · have hdx1 := (isDir_ents e1).mp hdx
    have old : ∀ {m u}, lk S m = some u → x ∈ u.ents → (if m = n then r pl + 1 else r m) < if x.2 = n then r pl + 1 else r x.2 := fun {m} {u} h hx => by
      have hm : ¬ m = n := fun q => by rw [q, hn] at h; cases h
      have hx2 := noln h hx
      rw [if_neg hm, if_neg hx2]
      obtain ⟨v, ev, dv⟩ := hdx1
      rcases k1 ev with ⟨q, _⟩ | ⟨_, ev⟩
      · exact absurd q hx2
      · exact hr _ _ _ h hx ⟨v, ev, dv⟩
    rcases lk_ents h with ⟨rfl, rfl⟩ | ⟨hm, h⟩
    · rcases mem_pt hx with rfl | ⟨hx, _⟩
      · show (if m = n then r m + 1 else r m) < if n = n then r m + 1 else r n
        rw [if_neg npl, if_pos rfl]
        omega
      · exact old e hx
    · rcases k1 h with ⟨rfl, rfl⟩ | ⟨_, h⟩
      · cases hx
      · exact old h hx
  · rw [ln]
    obtain ⟨v, ev, dv⟩ := (isDir_ents e1).mp h
    rcases k1 ev with ⟨rfl, _⟩ | ⟨hmn, ev⟩
    · rw [l0]
      simp [one_]
    · rw [W.one m m0 ⟨v, ev, dv⟩]
      unfold one_
      rw [decide_eq_false (Ne.symm hmn)]
      rfl
  · rw [ln]
    rcases lk_ents h with ⟨rfl, rfl⟩ | ⟨hm, h⟩
    · have hu : t.dir = false := hu
      rw [hd] at hu
      cases hu
    · rcases k1 h with ⟨rfl, _⟩ | ⟨_, h⟩
      · unfold one_
        rw [decide_eq_true rfl]
        simp
      · have := W.ref _ _ h hu
        omega
/-! ### link -/
theorem Whole.link {S : St} (W : Whole S) {pl n : Int} {t u : Th} {z : Str} (e : lk S pl = some t) (hd : t.dir = true) (hz : isName z = true) (en : lk S n = some u) (du : u.dir = false) (hl : t.ents.length < 40) (ez : lk t.ents z = none) : Whole (entS S pl z n) := by
  have bs := W.base
  obtain ⟨r, hr⟩ := W.rk
  have nodir : ¬ isDir S n := fun ⟨v, ev, dv⟩ => by rw [en] at ev; cases ev; rw [du] at dv; cases dv
  have n0 : n ≠ 0 := fun q => nodir (by rw [q]; exact W.rt)
  have b2 : Base (pt S pl { t with ents := pt t.ents z n }) := bs.ents e hd ((bs.oke e).put hz n0 (by rw [en]; rfl) (by have := pt_len_le t.ents z n; omega))
  have ln : ∀ m, linksN (pt S pl { t with ents := pt t.ents z n }) m = linksN S m + one_ (decide (n = m)) := fun m => by
    have g1 := links_pt (t := { t with ents := pt t.ents z n }) (n := m) bs.kd e
    have g3 : cntT m { t with ents := pt t.ents z n } = cntT m t + one_ (decide (n = m)) := cntE_new ez
    omega
  rw [entS_is e]
  refine whole_of (r := r) b2 (fun m v x h hx hdx => ?_) (fun m m0 h => ?_) (fun m v h hv => ?_)
  · have hdx1 := (isDir_ents e).mp hdx
    rcases lk_ents h with ⟨rfl, rfl⟩ | ⟨hm, h⟩
    · rcases mem_pt hx with rfl | ⟨hx, _⟩
      · exact absurd hdx1 nodir
      · exact hr _ _ _ e hx hdx1
    · exact hr _ _ _ h hx hdx1
  · have h := (isDir_ents e).mp h
    rw [ln, W.one m m0 h]
    unfold one_
    rw [decide_eq_false (fun q => nodir (by rw [q]; exact h))]
    rfl
  · rw [ln]
    rcases lk_ents h with ⟨rfl, rfl⟩ | ⟨hm, h⟩
    · have hv : t.dir = false := hv
      rw [hd] at hv
      cases hv
    · have := W.ref _ _ h hv
      omega
/-! ### unlink -/
theorem Whole.unlink {S : St} (W : Whole S) {pl n : Int} {t u : Th} {z : Str} (e : lk S pl = some t) (hd : t.dir = true) (ez : lk t.ents z = some n) (en : lk S n = some u) (ue : u.ents = []) : Whole (forgetS (dropS S pl z) n) := by
  have bs := W.base
  obtain ⟨r, hr⟩ := W.rk
  have n0 : n ≠ 0 := (bs.cl _ _ _ e (lk_mem ez)).1
  have npl : n ≠ pl := fun q => by
    rw [q, e] at en
    cases en
    rw [ue] at ez
    cases ez
  rw [dropS_is e]
  have b2 : Base (pt S pl { t with ents := dp t.ents z }) := bs.ents e hd ((bs.oke e).drop z)
  have ln : ∀ m, linksN (pt S pl { t with ents := dp t.ents z }) m + one_ (decide (n = m)) = linksN S m := fun m => by
    have g1 := links_pt (t := { t with ents := dp t.ents z }) (n := m) bs.kd e
    have g3 : cntT m { t with ents := dp t.ents z } + one_ (decide (n = m)) = cntT m t := cntE_dp (bs.th _ _ e).kd ez
    omega
  have rk1 : Rk (pt S pl { t with ents := dp t.ents z }) r := fun m v x h hx hdx => by
    have hdx1 := (isDir_ents e).mp hdx
    rcases lk_ents h with ⟨rfl, rfl⟩ | ⟨hm, h⟩
    · exact hr _ _ _ e (mem_dp.mp hx).1 hdx1
    · exact hr _ _ _ h hx hdx1
  have en1 : lk (pt S pl { t with ents := dp t.ents z }) n = some u := by rw [lk_pt, if_neg npl, en]
  have lm : ∀ {m}, m ≠ n → linksN (pt S pl { t with ents := dp t.ents z }) m = linksN S m := fun {m} hm => by
    have := ln m
    unfold one_ at this
    rw [decide_eq_false (Ne.symm hm)] at this
    exact this
  have lnn : linksN (pt S pl { t with ents := dp t.ents z }) n + 1 = linksN S n := by
    have := ln n
    unfold one_ at this
    rw [decide_eq_true rfl] at this
    exact this
  unfold forgetS
  by_cases hc : dirB (pt S pl { t with ents := dp t.ents z }) n = true ∨ linksN (pt S pl { t with ents := dp t.ents z }) n = 0
  · rw [if_pos hc]
    have z0 : linksN (pt S pl { t with ents := dp t.ents z }) n = 0 := by
      rcases hc with hc | hc
      · have h1 := (isDir_ents e).mp (dirB_iff.mp hc)
        have := W.one n n0 h1
        omega
      · exact hc
    have ld : ∀ m, linksN (dp (pt S pl { t with ents := dp t.ents z }) n) m = linksN (pt S pl { t with ents := dp t.ents z }) m := fun m => by
      have := links_dp (n := m) b2.kd en1
      rw [cnt_nil ue] at this
      exact this
    have ldp : ∀ {m v}, lk (dp (pt S pl { t with ents := dp t.ents z }) n) m = some v → m ≠ n ∧ lk (pt S pl { t with ents := dp t.ents z }) m = some v := fun h => by
      rw [lk_dp] at h
      split at h
      · cases h
      · exact ⟨by assumption, h⟩
    refine whole_of (r := r) (b2.del n0 z0) (fun m v x h hx hdx => rk1 _ _ _ (ldp h).2 hx (isDir_dp hdx).1) (fun m m0 h => ?_) (fun m v h hv => ?_)
    · obtain ⟨h, hm⟩ := isDir_dp h
      rw [ld, lm hm]
      exact W.one m m0 ((isDir_ents e).mp h)
    · obtain ⟨hm, h⟩ := ldp h
      rw [ld, lm hm]
      rcases lk_ents h with ⟨rfl, rfl⟩ | ⟨_, h⟩
      · have hv : t.dir = false := hv
        rw [hd] at hv
        cases hv
      · exact W.ref _ _ h hv
  · rw [if_neg hc]
    have hnd : ¬ isDir S n := fun h => hc (.inl (dirB_iff.mpr ((isDir_ents e).mpr h)))
    refine whole_of (r := r) b2 rk1 (fun m m0 h => ?_) (fun m v h hv => ?_)
    · have h := (isDir_ents e).mp h
      rw [lm (fun q => hnd (by rw [← q]; exact h))]
      exact W.one m m0 h
    · by_cases hm : m = n
      · subst hm
        have : linksN (pt S pl { t with ents := dp t.ents z }) m ≠ 0 := fun q => hc (.inr q)
        omega
      · rw [lm hm]
        rcases lk_ents h with ⟨rfl, rfl⟩ | ⟨_, h⟩
        · have hv : t.dir = false := hv
          rw [hd] at hv
          cases hv
        · exact W.ref _ _ h hv
end SP

set_option Elab.async false
set_option linter.all false
set_option maxRecDepth 100000
set_option maxHeartbeats 4000000
/-! Renames keep states whole; all deeds. -/
namespace SP
open PySem PySem.Spec PyProof.Rows L2
theorem dirB_ents {S : St} {pl n : Int} {t : Th} {es : List (Str × Int)} (e : lk S pl = some t) : dirB (pt S pl { t with ents := es }) n = dirB S n := by
  rw [Bool.eq_iff_iff, dirB_iff, dirB_iff]
  exact isDir_ents e
/-- behind an entry put in the stead of another one, what that one named is forgotten where nothing names it -/
theorem Whole.forget {S2 : St} {r : Int → Nat} (b2 : Base S2) (rk : Rk S2 r) {o : Int} {u : Th} (eo : lk S2 o = some u) (ue : u.ents = []) (o0 : o ≠ 0) (h1 : ∀ n, n ≠ 0 → n ≠ o → isDir S2 n → linksN S2 n = 1) (h2 : ∀ n t, n ≠ o → lk S2 n = some t → t.dir = false → 1 ≤ linksN S2 n) (hd : isDir S2 o → linksN S2 o = 0) : Whole (forgetS S2 o) := by
  unfold forgetS
  by_cases hc : dirB S2 o = true ∨ linksN S2 o = 0
  · rw [if_pos hc]
    have z0 : linksN S2 o = 0 := by
      rcases hc with hc | hc
      · exact hd (dirB_iff.mp hc)
      · exact hc
    have ld : ∀ m, linksN (dp S2 o) m = linksN S2 m := fun m => by
      have := links_dp (n := m) b2.kd eo
      rw [cnt_nil ue] at this
      exact this
    have ldp : ∀ {m v}, lk (dp S2 o) m = some v → m ≠ o ∧ lk S2 m = some v := fun h => by
      rw [lk_dp] at h
      split at h
      · cases h
      · exact ⟨by assumption, h⟩
    refine whole_of (r := r) (b2.del o0 z0) (fun m v x h hx hdx => rk _ _ _ (ldp h).2 hx (isDir_dp hdx).1) (fun m m0 h => ?_) (fun m v h hv => ?_)
    · obtain ⟨h, hm⟩ := isDir_dp h
      rw [ld]
      exact h1 m m0 hm h
    · obtain ⟨hm, h⟩ := ldp h
      rw [ld]
      exact h2 m v hm h hv
  · rw [if_neg hc]
    refine whole_of (r := r) b2 rk (fun m m0 h => h1 m m0 (fun q => hc (.inl (dirB_iff.mpr (by rw [← q]; exact h)))) h) (fun m v h hv => ?_)
    by_cases hm : m = o
    · rw [hm]
      have : linksN S2 o ≠ 0 := fun q => hc (.inr q)
      omega
    · exact h2 m v hm h hv
theorem Whole.rename {S : St} (W : Whole S) {fr pl n : Int} {t u : Th} {z y : Str} (e : lk S fr = some t) (hd : t.dir = true) (ez : lk t.ents z = some n) (ep : lk S pl = some u) (hdp : u.dir = true) (hy : isName y = true) (nb : ¬ Below S n pl)
    (hn : lk u.ents y ≠ some n) (hr0 : repl S n (lk u.ents y) = none) (hfull : ¬ (lk u.ents y = none ∧ pl ≠ fr ∧ u.ents.length = 40)) : Whole (renS S fr z pl y n (lk u.ents y)) := by
  have bs := W.base
  obtain ⟨r, hr⟩ := W.rk
  obtain ⟨n0, ns⟩ := bs.cl _ _ _ e (lk_mem ez)
  have n0 : n ≠ 0 := n0
  obtain ⟨tn, etn⟩ := Option.isSome_iff_exists.mp ns
  -- the first step: the entry leaves
  have b1 : Base (pt S fr { t with ents := dp t.ents z }) := bs.ents e hd ((bs.oke e).drop z)
  have l1 : ∀ m, linksN (pt S fr { t with ents := dp t.ents z }) m + one_ (decide (n = m)) = linksN S m := fun m => by
    have g1 := links_pt (t := { t with ents := dp t.ents z }) (n := m) bs.kd e
    have g3 : cntT m { t with ents := dp t.ents z } + one_ (decide (n = m)) = cntT m t := cntE_dp (bs.th _ _ e).kd ez
    omega
  have dir1 : ∀ {m}, isDir (pt S fr { t with ents := dp t.ents z }) m ↔ isDir S m := fun {m} => isDir_ents e
  obtain ⟨u1, eu1, du1, hy1, len1, sub1⟩ : ∃ u1, lk (pt S fr { t with ents := dp t.ents z }) pl = some u1 ∧ u1.dir = true ∧ lk u1.ents y = lk u.ents y ∧ (lk u.ents y = none → u1.ents.length < 40) ∧ (∀ x ∈ u1.ents, x ∈ u.ents ∧ ¬ (pl = fr ∧ x.1 = z)) := by
    rw [lk_pt]
    by_cases q : pl = fr
    · subst q
      rw [if_pos rfl]
      have q2 : u = t := by
        rw [e] at ep
        exact (Option.some.inj ep).symm
      subst q2
      have zy : y ≠ z := fun q => hn (by rw [q]; exact ez)
      refine ⟨_, rfl, hd, by show lk (dp u.ents z) y = lk u.ents y; rw [lk_dp, if_neg zy], fun h => ?_, fun x hx => ⟨(mem_dp.mp hx).1, fun z' => (mem_dp.mp hx).2 z'.2⟩⟩
      have := dp_len (bs.th _ _ e).kd ez
      have := (bs.th _ _ e).el
      show (dp u.ents z).length < 40
      omega
    · rw [if_neg q]
      refine ⟨u, ep, hdp, rfl, fun h => ?_, fun x hx => ⟨hx, fun z' => q z'.1⟩⟩
      have := (bs.th _ _ ep).el
      have : u.ents.length ≠ 40 := fun q' => hfull ⟨h, q, q'⟩
      omega
  -- the second: it stands anew
  have some1 : ∀ {m}, (lk S m).isSome = true → (lk (pt S fr { t with ents := dp t.ents z }) m).isSome = true := fun h => some_pt h
  have b2 : Base (pt (pt S fr { t with ents := dp t.ents z }) pl { u1 with ents := pt u1.ents y n }) := by
    refine b1.ents eu1 du1 ((b1.oke eu1).put hy n0 (some1 ns) ?_)
    cases h : lk u.ents y with
    | none =>
      have := len1 h
      have := pt_len_le u1.ents y n
      omega
    | some o =>
      rw [pt_len_old (u := o) n (by rw [hy1, h])]
      exact (b1.th _ _ eu1).el
  have dir2 : ∀ {m}, isDir (pt (pt S fr { t with ents := dp t.ents z }) pl { u1 with ents := pt u1.ents y n }) m ↔ isDir S m := fun {m} => (isDir_ents eu1).trans dir1
  have es2 : entS (dropS S fr z) pl y n = pt (pt S fr { t with ents := dp t.ents z }) pl { u1 with ents := pt u1.ents y n } := by
    rw [dropS_is e, entS_is eu1]
  -- what leads where
  have edge : ∀ {m v x}, lk (pt (pt S fr { t with ents := dp t.ents z }) pl { u1 with ents := pt u1.ents y n }) m = some v → x ∈ v.ents → (m = pl ∧ x = (y, n)) ∨ ∃ w, lk S m = some w ∧ x ∈ w.ents ∧ ¬ (m = fr ∧ x.1 = z) := fun {m} {v} {x} h hx => by
    rcases lk_ents h with ⟨rfl, rfl⟩ | ⟨hm, h⟩
    · rcases mem_pt hx with rfl | ⟨hx, _⟩
      · exact .inl ⟨rfl, rfl⟩
      · obtain ⟨h1, h2⟩ := sub1 x hx
        exact .inr ⟨u, ep, h1, h2⟩
    · rcases lk_ents h with ⟨rfl, rfl⟩ | ⟨hm2, h⟩
      · exact .inr ⟨t, e, (mem_dp.mp hx).1, fun q => (mem_dp.mp hx).2 q.2⟩
      · exact .inr ⟨v, h, hx, fun q => hm2 q.1⟩
  have rk2 : Rk (pt (pt S fr { t with ents := dp t.ents z }) pl { u1 with ents := pt u1.ents y n }) (fun m => if belowB S n m = true then r m + r pl + 1 else r m) := fun m v x h hx hdx => by
    have hdx := dir2.mp hdx
    rcases edge h hx with ⟨rfl, rfl⟩ | ⟨w, ew, hxw, hne⟩
    · show (if belowB S n m = true then r m + r m + 1 else r m) < if belowB S n n = true then r n + r m + 1 else r n
      rw [if_neg (fun q => nb (belowB_iff.mp q)), if_pos (belowB_iff.mpr (.refl n))]
      omega
    · have hlt := hr _ _ _ ew hxw hdx
      show (if belowB S n m = true then r m + r pl + 1 else r m) < if belowB S n x.2 = true then r x.2 + r pl + 1 else r x.2
      by_cases hb : Below S n m
      · have hb2 : Below S n x.2 := hb.trans (.step (z := x.1) ew hxw hdx (.refl _))
        rw [if_pos (belowB_iff.mpr hb), if_pos (belowB_iff.mpr hb2)]
        omega
      · rw [if_neg (fun q => hb (belowB_iff.mp q))]
        split
        · omega
        · exact hlt
  have l2 : ∀ m, linksN (pt (pt S fr { t with ents := dp t.ents z }) pl { u1 with ents := pt u1.ents y n }) m + (match lk u.ents y with | none => 0 | some o => one_ (decide (o = m))) = linksN S m := fun m => by
    have g1 := links_pt (t := { u1 with ents := pt u1.ents y n }) (n := m) b1.kd eu1
    have g2 := l1 m
    cases h : lk u.ents y with
    | none =>
      have g3 : cntT m { u1 with ents := pt u1.ents y n } = cntT m u1 + one_ (decide (n = m)) := cntE_new (by rw [hy1, h])
      show _ + 0 = _
      omega
    | some o =>
      have g3 : cntT m { u1 with ents := pt u1.ents y n } + one_ (decide (o = m)) = cntT m u1 + one_ (decide (n = m)) := cntE_old (b1.th _ _ eu1).kd (by rw [hy1, h])
      show _ + one_ (decide (o = m)) = _
      omega
  have filed : ∀ {m v}, lk (pt (pt S fr { t with ents := dp t.ents z }) pl { u1 with ents := pt u1.ents y n }) m = some v → v.dir = false → lk S m = some v := fun h hv => by
    rcases lk_ents h with ⟨rfl, rfl⟩ | ⟨hm, h⟩
    · have hv : u1.dir = false := hv
      rw [du1] at hv
      cases hv
    · rcases lk_ents h with ⟨rfl, rfl⟩ | ⟨hm2, h⟩
      · have hv : t.dir = false := hv
        rw [hd] at hv
        cases hv
      · exact h
  cases h : lk u.ents y with
  | none =>
    rw [h] at l2
    have l2 : ∀ m, linksN (pt (pt S fr { t with ents := dp t.ents z }) pl { u1 with ents := pt u1.ents y n }) m = linksN S m := l2
    show Whole (entS (dropS S fr z) pl y n)
    rw [es2]
    exact whole_of b2 rk2 (fun m m0 hm => by rw [l2]; exact W.one m m0 (dir2.mp hm)) (fun m v hm hv => by rw [l2]; exact W.ref m v (filed hm hv) hv)
  | some o =>
    rw [h] at l2
    have l2 : ∀ m, linksN (pt (pt S fr { t with ents := dp t.ents z }) pl { u1 with ents := pt u1.ents y n }) m + one_ (decide (o = m)) = linksN S m := l2
    rw [h] at hr0 hn
    have hr0 : mayRep S n o = none := hr0
    obtain ⟨o0, os⟩ := bs.cl _ _ _ ep (lk_mem h)
    have o0 : o ≠ 0 := o0
    obtain ⟨w, ew⟩ := Option.isSome_iff_exists.mp os
    have ew : lk S o = some w := ew
    have we : w.ents = [] := by
      unfold mayRep at hr0
      rw [ew] at hr0
      split at hr0
      · cases hr0
      · split at hr0
        · cases hr0
        · rename_i q
          exact List.length_eq_zero_iff.mp (Nat.eq_zero_of_not_pos q)
    have ofr : o ≠ fr := fun q => by
      rw [q, e] at ew
      cases ew
      rw [we] at ez
      cases ez
    have opl : o ≠ pl := fun q => by
      rw [q, ep] at ew
      cases ew
      rw [we] at h
      cases h
    have eo2 : lk (pt (pt S fr { t with ents := dp t.ents z }) pl { u1 with ents := pt u1.ents y n }) o = some w := by
      rw [lk_pt, if_neg opl, lk_pt, if_neg ofr, ew]
    have lm : ∀ {m}, m ≠ o → linksN (pt (pt S fr { t with ents := dp t.ents z }) pl { u1 with ents := pt u1.ents y n }) m = linksN S m := fun {m} hm => by
      have := l2 m
      unfold one_ at this
      rw [decide_eq_false (Ne.symm hm)] at this
      exact this
    show Whole (forgetS (entS (dropS S fr z) pl y n) o)
    rw [es2]
    refine Whole.forget b2 rk2 eo2 we o0 (fun m m0 hm hdm => by rw [lm hm]; exact W.one m m0 (dir2.mp hdm)) (fun m v hm hmv hv => by rw [lm hm]; exact W.ref m v (filed hmv hv) hv) (fun hdo => ?_)
    have g1 := l2 o
    have g2 := W.one o o0 (dir2.mp hdo)
    unfold one_ at g1
    rw [decide_eq_true rfl] at g1
    have g1 : _ + 1 = linksN S o := g1
    omega
/-! ### deeds -/
structure Good (F : Fs) : Prop where
  w : Whole F.S
  l : WL F.L
theorem become_ok {F : Fs} {count : Nat} {S : St} {L : Sn} {a : Option Int} {r : Option (St × Sn) × Option Int} (h : become F count S L a = .ok r) : r = (some (S, L), a) ∧ roomOk S L F.used count := by
  unfold become at h
  split at h
  · cases h; exact ⟨rfl, by assumption⟩
  · cases h
theorem placeFor_full {S : St} (c : Clo S) {ns : List Str} {pl : Int} (h : placeFor S ns = .ok pl) : ns ≠ [] ∧ ∃ t, lk S pl = some t ∧ t.dir = true ∧ lk t.ents (lastOf ns) = none := by
  unfold placeFor at h
  split at h
  · cases h
  · rename_i e0
    refine ⟨e0, ?_⟩
    split at h
    · cases h
    · rename_i n' e'
      obtain ⟨t, et, td⟩ := placeOf_in c e'
      rw [et] at h
      have h : (if (lk t.ents (ns.getLast?.getD "")).isSome = true then (Except.error "IsThere" : Except Str Int) else Except.ok n') = .ok pl := h
      split at h
      · cases h
      · rename_i hz
        cases h
        exact ⟨t, et, td, by
          cases q : lk t.ents (lastOf ns) with
          | none => rfl
          | some i =>
            have q : lk t.ents (ns.getLast?.getD "") = some i := q
            rw [q] at hz
            exact absurd rfl hz⟩
theorem name_last {p : Str} {ns : List Str} (h : partsOf p = some ns) (e0 : ns ≠ []) : isName (lastOf ns) = true := parts_names h _ (last_mem e0)
theorem make_good {F : Fs} (g : Good F) {count : Nat} {p : Str} {b : Bool} {r : Option (St × Sn) × Option Int} (h : makeD F count p b = .ok r) : Good (applyF F r.1) := by
  unfold makeD at h
  split at h
  · cases h
  · rename_i ns en
    split at h
    · cases h
    · rename_i pl epl
      split at h
      · cases h
      · rename_i hc
        obtain ⟨rfl, _⟩ := become_ok h
        obtain ⟨e0, t, et, td, tz⟩ := placeFor_full g.w.clo epl
        obtain ⟨ln, lm⟩ := least_spec F.S
        have h1 : leastFree F.S ≤ 32 := Nat.le_of_not_lt fun q => by
          obtain ⟨v, ev⟩ := Option.isSome_iff_exists.mp (lm 32 q)
          have := (g.w.base.kr _ _ ev).2
          omega
        have h2 : leastFree F.S ≠ 32 := fun q => hc (.inl q)
        refine ⟨?_, g.l⟩
        show Whole (makeS F.S pl (leastFree F.S) (lastOf ns) b)
        unfold makeS
        refine g.w.make et td (name_last en e0) ln (by omega) (by omega) ?_ tz
        have := (g.w.ok et).el
        have : t.ents.length ≠ 40 := fun q => hc (.inr (by rw [et]; exact q))
        omega
theorem write_good {F : Fs} (g : Good F) {count : Nat} {n start : Int} {row : List Int} (h0 : 0 ≤ start) (hb : ∀ b ∈ row, 0 ≤ b ∧ b < 256) {r : Option (St × Sn) × Option Int} (h : writeD F count n start row = .ok r) : Good (applyF F r.1) := by
  unfold writeD at h
  split at h
  · cases h
  · rename_i t et
    split at h
    · cases h
    · split at h
      · cases h
        exact g
      · obtain ⟨rfl, _⟩ := become_ok h
        obtain ⟨e, hd⟩ := fileAt_in et
        have ot := g.w.ok e
        refine ⟨g.w.held e hd ?_ fun b hbm => ?_, g.l⟩
        · have hl := ot.hl
          unfold wrL
          rw [List.length_append, List.length_append, List.length_take, List.length_drop, List.length_append, List.length_replicate]
          omega
        · unfold wrL at hbm
          rcases List.mem_append.mp hbm with hbm | hbm
          · rcases List.mem_append.mp hbm with hbm | hbm
            · rcases List.mem_append.mp (List.mem_of_mem_take hbm) with hbm | hbm
              · exact ot.by_ b hbm
              · rw [List.eq_of_mem_replicate hbm]
                decide
            · exact hb b hbm
          · rcases List.mem_append.mp (List.mem_of_mem_drop hbm) with hbm | hbm
            · exact ot.by_ b hbm
            · rw [List.eq_of_mem_replicate hbm]
              decide
theorem cut_good {F : Fs} (g : Good F) {count : Nat} {n size : Int} (h0 : 0 ≤ size) {r : Option (St × Sn) × Option Int} (h : cutD F count n size = .ok r) : Good (applyF F r.1) := by
  unfold cutD at h
  split at h
  · cases h
  · rename_i t et
    split at h
    · cases h
    · obtain ⟨rfl, _⟩ := become_ok h
      obtain ⟨e, hd⟩ := fileAt_in et
      have ot := g.w.ok e
      refine ⟨g.w.held e hd ?_ fun b hbm => ?_, g.l⟩
      · have hl := ot.hl
        unfold ctL
        rw [List.length_append, List.length_take, List.length_replicate]
        omega
      · unfold ctL at hbm
        rcases List.mem_append.mp hbm with hbm | hbm
        · exact ot.by_ b (List.mem_of_mem_take hbm)
        · rw [List.eq_of_mem_replicate hbm]
          decide
theorem link_good {F : Fs} (g : Good F) {count : Nat} {p q : Str} {r : Option (St × Sn) × Option Int} (h : linkD F count p q = .ok r) : Good (applyF F r.1) := by
  unfold linkD at h
  split at h
  · rename_i ns os en eo
    split at h
    · cases h
    · rename_i n ew
      split at h
      · cases h
      · rename_i hd
        split at h
        · cases h
        · rename_i pl epl
          split at h
          · cases h
          · rename_i hc
            obtain ⟨rfl, _⟩ := become_ok h
            obtain ⟨e0, t, et, td, tz⟩ := placeFor_full g.w.clo epl
            obtain ⟨u, eu⟩ := Option.isSome_iff_exists.mp (g.w.clo.walk g.w.clo.r ew)
            refine ⟨g.w.link et td (name_last eo e0) eu ?_ ?_ tz, g.l⟩
            · rw [eu] at hd
              simpa using hd
            · have := (g.w.ok et).el
              have : t.ents.length ≠ 40 := fun q => hc (by rw [et]; exact q)
              omega
  · cases h
theorem unlink_good {F : Fs} (g : Good F) {count : Nat} {p : Str} {r : Option (St × Sn) × Option Int} (h : unlinkD F count p = .ok r) : Good (applyF F r.1) := by
  unfold unlinkD at h
  split at h
  · cases h
  · rename_i ns en
    split at h
    · cases h
    · rename_i n ew
      split at h
      · cases h
      · rename_i e0
        split at h
        · cases h
        · rename_i hl
          split at h
          · cases h
          · rename_i pl epl
            obtain ⟨rfl, _⟩ := become_ok h
            obtain ⟨pl', t, epl', et, td, tz⟩ := place_walk e0 ew
            rw [epl] at epl'
            cases epl'
            obtain ⟨u, eu⟩ := Option.isSome_iff_exists.mp (g.w.clo.walk g.w.clo.r ew)
            refine ⟨g.w.unlink et td tz eu ?_, g.l⟩
            rw [eu] at hl
            exact List.length_eq_zero_iff.mp (Nat.eq_zero_of_not_pos hl)
theorem rename_good {F : Fs} (g : Good F) {count : Nat} {p q : Str} {r : Option (St × Sn) × Option Int} (h : renameD F count p q = .ok r) : Good (applyF F r.1) := by
  unfold renameD at h
  split at h
  · rename_i ns os en eo
    split at h
    · cases h
    · rename_i n ew
      split at h
      · cases h
      · rename_i he
        have e0 : ns ≠ [] := fun q => he (.inl q)
        have e1 : os ≠ [] := fun q => he (.inr q)
        split at h
        · cases h
        · rename_i pl epl
          unfold renameT at h
          obtain ⟨u, eu, ud⟩ := placeOf_in g.w.clo epl
          rw [eu, Option.getD_some] at h
          split at h
          · cases h
          · rename_i hb
            split at h
            · cases h
              exact g
            · rename_i hn
              split at h
              · cases h
              · rename_i hr
                split at h
                · cases h
                · rename_i fr efr
                  split at h
                  · cases h
                  · rename_i hf
                    obtain ⟨rfl, _⟩ := become_ok h
                    obtain ⟨fr', t, efr', et, td, tz⟩ := place_walk e0 ew
                    rw [efr] at efr'
                    cases efr'
                    exact ⟨g.w.rename et td tz eu ud (name_last eo e1) (fun z => hb (belowB_iff.mpr z)) hn hr hf, g.l⟩
  · cases h
theorem snap_good {F : Fs} (g : Good F) {count : Nat} {z : Str} {r : Option (St × Sn) × Option Int} (h : snapD F count z = .ok r) : Good (applyF F r.1) := by
  unfold snapD at h
  split at h
  · rename_i hz
    split at h
    · cases h
    · rename_i hi
      split at h
      · cases h
      · rename_i h3
        obtain ⟨rfl, _⟩ := become_ok h
        refine ⟨g.w, nd_pt _ g.l.kd, ?_, fun x hx => ?_, fun x hx => ?_⟩
        · have := pt_len_le F.L z F.S
          have := g.l.ln
          show (pt F.L z F.S).length ≤ 3
          omega
        · rcases mem_pt hx with rfl | ⟨hx, _⟩
          · exact hz
          · exact g.l.nm x hx
        · rcases mem_pt hx with rfl | ⟨hx, _⟩
          · exact g.w
          · exact g.l.ws x hx
  · cases h
theorem unsnap_good {F : Fs} (g : Good F) {count : Nat} {z : Str} {r : Option (St × Sn) × Option Int} (h : unsnapD F count z = .ok r) : Good (applyF F r.1) := by
  unfold unsnapD at h
  split at h
  · cases h
  · obtain ⟨rfl, _⟩ := become_ok h
    exact ⟨g.w, nd_dp g.l.kd, Nat.le_trans (dp_len_le _ _) g.l.ln, fun x hx => g.l.nm x (mem_dp.mp hx).1, fun x hx => g.l.ws x (mem_dp.mp hx).1⟩
theorem lk_S0 {n : Int} {t : Th} (h : lk S0 n = some t) : n = 0 ∧ t = ⟨true, [], []⟩ := by
  unfold S0 at h
  rw [lk_cons] at h
  split at h
  · rename_i e
    exact ⟨e.symm, (Option.some.inj h).symm⟩
  · cases h
theorem base0 : Base S0 := by
  refine ⟨by decide, fun n t h => ?_, ⟨_, rfl, rfl⟩, fun n t h => ?_, fun n t e h he => ?_⟩
  · obtain ⟨rfl, _⟩ := lk_S0 h
    exact ⟨by decide, by decide⟩
  · obtain ⟨_, rfl⟩ := lk_S0 h
    exact ⟨fun _ => rfl, fun _ => rfl, List.nodup_nil, Nat.zero_le _, Nat.zero_le _, fun _ h => (nomatch h), fun _ h => (nomatch h)⟩
  · obtain ⟨_, rfl⟩ := lk_S0 h
    cases he
theorem whole0 : Whole S0 := by
  refine whole_of (r := fun _ => 0) base0 (fun n t e h he _ => ?_) (fun n n0 h => ?_) (fun n t h hd => ?_)
  · obtain ⟨_, rfl⟩ := lk_S0 h
    cases he
  · obtain ⟨t, h, _⟩ := h
    exact absurd (lk_S0 h).1 n0
  · obtain ⟨_, rfl⟩ := lk_S0 h
    cases hd
theorem wl0 : WL [] := ⟨List.nodup_nil, Nat.zero_le _, fun _ h => (nomatch h), fun _ h => (nomatch h)⟩
theorem good0 : Good F0 := ⟨whole0, wl0⟩
end SP

set_option Elab.async false
set_option linter.all false
set_option maxRecDepth 100000
set_option maxHeartbeats 4000000
/-! Deeds as data. -/
namespace SP
open PySem PySem.Spec PyProof.Rows L2
inductive Deed where
  | make (p : Str) (b : Bool)
  | link (p q : Str)
  | unlink (p : Str)
  | rename (p q : Str)
  | write (n start : Int) (row : List Int)
  | cut (n size : Int)
  | snap (z : Str)
  | unsnap (z : Str)
noncomputable def deedD (D : Deed) (F : Fs) (count : Nat) : Dr := match D with
  | .make p b => makeD F count p b
  | .link p q => linkD F count p q
  | .unlink p => unlinkD F count p
  | .rename p q => renameD F count p q
  | .write n s r => writeD F count n s r
  | .cut n s => cutD F count n s
  | .snap z => snapD F count z
  | .unsnap z => unsnapD F count z
def OkD : Deed → Prop
  | .make p _ => p.length ≤ 1000
  | .link p q => p.length ≤ 1000 ∧ q.length ≤ 1000
  | .unlink p => p.length ≤ 1000
  | .rename p q => p.length ≤ 1000 ∧ q.length ≤ 1000
  | .write _ s r => 0 ≤ s ∧ r.length ≤ 1000 ∧ ∀ b ∈ r, 0 ≤ b ∧ b < 256
  | .cut _ s => 0 ≤ s
  | .snap z => z.length ≤ 1000
  | .unsnap z => z.length ≤ 1000
theorem deed_good {D : Deed} (o : OkD D) {F : Fs} (g : Good F) {count : Nat} {r : Option (St × Sn) × Option Int} (h : deedD D F count = .ok r) : Good (applyF F r.1) := by
  cases D with
  | make p b => exact make_good g h
  | link p q => exact link_good g h
  | unlink p => exact unlink_good g h
  | rename p q => exact rename_good g h
  | write n s r => exact write_good g o.1 o.2.2 h
  | cut n s => exact cut_good g o h
  | snap z => exact snap_good g h
  | unsnap z => exact unsnap_good g h
def tenB (x : Str) : Bool := decide (x ∈ ten)
theorem entry_err {S : St} {n : Int} {z x : Str} (hn : (lk S n).isSome = true) (h : entryOf S n z = .error x) : x ∈ ten := by
  unfold entryOf at h
  split at h
  · rename_i e; rw [e] at hn; cases hn
  · split at h
    · split at h
      · cases h; decide
      · cases h
    · cases h; decide
theorem walk_err {S : St} (c : Clo S) {x : Str} : ∀ {ns : List Str} {n : Int}, (lk S n).isSome = true → walkedF S n ns = .error x → x ∈ ten
  | [], n, hn, h => by cases h
  | z :: r, n, hn, h => by
    unfold walkedF at h
    cases e : entryOf S n z with
    | ok i => rw [e] at h; exact walk_err c (c.entry e) h
    | error y => rw [e] at h; cases h; exact entry_err hn e
theorem place_err {S : St} (c : Clo S) {ns : List Str} {x : Str} (h : placeOf S ns = .error x) : x ∈ ten := by
  unfold placeOf at h
  split at h
  · rename_i n e
    split at h
    · split at h
      · cases h
      · cases h; decide
    · rename_i e2
      have := c.walk c.r e
      rw [e2] at this
      cases this
  · rename_i y e
    cases h
    exact walk_err c c.r e
theorem placeFor_err {S : St} (c : Clo S) {ns : List Str} {x : Str} (h : placeFor S ns = .error x) : x ∈ ten := by
  unfold placeFor at h
  split at h
  · cases h; decide
  · split at h
    · rename_i y e
      cases h
      exact place_err c e
    · rename_i n e
      obtain ⟨t, et, _⟩ := placeOf_in c e
      rw [et] at h
      have h : (if (lk t.ents (ns.getLast?.getD "")).isSome = true then (Except.error "IsThere" : Except Str Int) else Except.ok n) = .error x := h
      split at h
      · cases h; decide
      · cases h
theorem become_err {F : Fs} {count : Nat} {S : St} {L : Sn} {a : Option Int} {x : Str} (h : become F count S L a = .error x) : x = "NoRoom" := by
  unfold become at h
  split at h
  · cases h
  · cases h; rfl
theorem find_err {S : St} (c : Clo S) {p x : Str} (h : findF S p = .error x) : x ∈ ten := by
  unfold findF at h
  split at h
  · cases h; decide
  · exact walk_err c c.r h
theorem file_err {S : St} {n : Int} {x : Str} (h : fileAt S n = .error x) : x ∈ ten := by
  unfold fileAt at h
  split at h
  · cases h; decide
  · split at h
    · cases h; decide
    · cases h
theorem needS_err {L : Sn} {z x : Str} (h : needS L z = .error x) : x ∈ ten := by
  unfold needS at h
  split at h
  · split at h
    · cases h; decide
    · cases h
  · cases h; decide
theorem deed_err {D : Deed} {F : Fs} (g : Good F) {count : Nat} {x : Str} (h : deedD D F count = .error x) : x ∈ ten := by
  have c := g.w.clo
  have nr : ∀ {S : St} {L : Sn} {a : Option Int}, become F count S L a = .error x → x ∈ ten := fun h => by
    rw [become_err h]
    decide
  cases D with
  | make p b =>
    have h : makeD F count p b = .error x := h
    unfold makeD at h
    split at h
    · cases h; decide
    · split at h
      · cases h; exact placeFor_err c (by assumption)
      · split at h
        · cases h; decide
        · exact nr h
  | link p q =>
    have h : linkD F count p q = .error x := h
    unfold linkD at h
    split at h
    · split at h
      · cases h; exact walk_err c c.r (by assumption)
      · split at h
        · cases h; decide
        · split at h
          · cases h; exact placeFor_err c (by assumption)
          · split at h
            · cases h; decide
            · exact nr h
    · cases h; decide
  | unlink p =>
    have h : unlinkD F count p = .error x := h
    unfold unlinkD at h
    split at h
    · cases h; decide
    · split at h
      · cases h; exact walk_err c c.r (by assumption)
      · split at h
        · cases h; decide
        · split at h
          · cases h; decide
          · split at h
            · cases h; exact place_err c (by assumption)
            · exact nr h
  | rename p q =>
    have h : renameD F count p q = .error x := h
    unfold renameD at h
    split at h
    · split at h
      · cases h; exact walk_err c c.r (by assumption)
      · split at h
        · cases h; decide
        · split at h
          · cases h; exact place_err c (by assumption)
          · unfold renameT at h
            split at h
            · cases h; decide
            · split at h
              · cases h
              · split at h
                · rename_i y hy
                  cases h
                  unfold repl at hy
                  split at hy
                  · cases hy
                  · unfold mayRep at hy
                    split at hy
                    · cases hy; decide
                    · split at hy
                      · cases hy; decide
                      · cases hy
                · split at h
                  · cases h; exact place_err c (by assumption)
                  · split at h
                    · cases h; decide
                    · exact nr h
    · cases h; decide
  | write n s r =>
    have h : writeD F count n s r = .error x := h
    unfold writeD at h
    split at h
    · cases h; exact file_err (by assumption)
    · split at h
      · cases h; decide
      · split at h
        · cases h
        · exact nr h
  | cut n s =>
    have h : cutD F count n s = .error x := h
    unfold cutD at h
    split at h
    · cases h; exact file_err (by assumption)
    · split at h
      · cases h; decide
      · exact nr h
  | snap z =>
    have h : snapD F count z = .error x := h
    unfold snapD at h
    split at h
    · split at h
      · cases h; decide
      · split at h
        · cases h; decide
        · exact nr h
    · cases h; decide
  | unsnap z =>
    have h : unsnapD F count z = .error x := h
    unfold unsnapD at h
    split at h
    · cases h; exact needS_err (by assumption)
    · exact nr h
theorem ten_ok : ∀ x ∈ ten, PyData.strOk x = true := by decide +kernel
/-- a deed's tuple -/
def DeedAt (H : Hp) (v : V) : Deed → Prop
  | .make p b => ∃ t, v = .ref t ∧ H t = some (.tup [.str "make", .str p, .str (kindS b)])
  | .link p q => ∃ t, v = .ref t ∧ H t = some (.tup [.str "link", .str p, .str q])
  | .unlink p => ∃ t, v = .ref t ∧ H t = some (.tup [.str "unlink", .str p])
  | .rename p q => ∃ t, v = .ref t ∧ H t = some (.tup [.str "rename", .str p, .str q])
  | .write n s r => ∃ t a, v = .ref t ∧ H t = some (.tup [.str "write", .int n, .int s, .ref a]) ∧ H a = some (.lst (r.map V.int))
  | .cut n s => ∃ t, v = .ref t ∧ H t = some (.tup [.str "cut", .int n, .int s])
  | .snap z => ∃ t, v = .ref t ∧ H t = some (.tup [.str "snap", .str z])
  | .unsnap z => ∃ t, v = .ref t ∧ H t = some (.tup [.str "unsnap", .str z])
theorem DeedAt.same {H H' : Hp} {v : V} (s : Same H H') : ∀ {D : Deed}, DeedAt H v D → DeedAt H' v D
  | .make _ _, ⟨t, e, h⟩ => ⟨t, e, s _ _ h⟩
  | .link _ _, ⟨t, e, h⟩ => ⟨t, e, s _ _ h⟩
  | .unlink _, ⟨t, e, h⟩ => ⟨t, e, s _ _ h⟩
  | .rename _ _, ⟨t, e, h⟩ => ⟨t, e, s _ _ h⟩
  | .write _ _ _, ⟨t, a, e, h, g⟩ => ⟨t, a, e, s _ _ h, s _ _ g⟩
  | .cut _ _, ⟨t, e, h⟩ => ⟨t, e, s _ _ h⟩
  | .snap _, ⟨t, e, h⟩ => ⟨t, e, s _ _ h⟩
  | .unsnap _, ⟨t, e, h⟩ => ⟨t, e, s _ _ h⟩
/-- what a deed at files asks, the refusal's word told -/
def AskC (K : PySem.W.Frag) (f : Addr) (H : Hp) (Q : VK) (D : Fs → Nat → Dr) : Prop :=
  (∃ ms F, FilesAt K ms H f .non F ∧ ∀ H', Same H H' → Q (.str "ReadOnly") H') ∨
  ∃ d bl lg ms F B Lg, f ∈ ms ∧ (∀ a ∈ ms, (H a).isSome = true) ∧ FilesAt K ms H f (.ref d) F ∧ DiskAt K H d bl lg B Lg ∧ Good F ∧
    (∀ x, D F B.length = .error x → ∀ H', Same H H' → Q (.str x) H') ∧ (∀ r, D F B.length = .ok r → ∀ H', Keep [f] H H' → FilesAt K ms H' f (.ref d) (applyF F r.1) → Q (vAns r.2) H')
/-- its shape, as the deed itself wants it -/
theorem AskC.deed {K : PySem.W.Frag} {f : Addr} {H : Hp} {Q Q' : VK} {D : Fs → Nat → Dr} {E : XK} (h : AskC K f H Q D) (er : ∀ F c x, Good F → D F c = .error x → x ∈ ten) (qe : ∀ x H', x ∈ ten → Same H H' → (∀ H'', Same H H'' → Q (.str x) H'') → Exn K E x H') (qo : ∀ v H', Q v H' → Q' v H') : DeedC K f H Q' E D := by
  rcases h with ⟨ms, F, FA, q⟩ | ⟨d, bl, lg, ms, F, B, Lg, fm, mS, FA, D', g, e, o⟩
  · exact .inl ⟨ms, F, FA, fun H' s => qe _ _ (by decide) s q⟩
  · exact .inr ⟨d, bl, lg, ms, F, B, Lg, fm, mS, FA, D', g.w, g.l, fun x ex H' s => qe x H' (er F _ x g ex) s (e x ex), fun r er' H' k FA' => qo _ _ (o r er' H' k FA')⟩
theorem AskC.ins {K : PySem.W.Frag} {f : Addr} {H : Hp} {Q : VK} {D : Fs → Nat → Dr} (h : AskC K f H Q D) : ∃ dx v0 v1 v2 v3 v4 v5 v6, H f = some (oFiles K dx v0 v1 v2 v3 v4 v5 v6) := by
  rcases h with ⟨ms, F, FA, q⟩ | ⟨d, bl, lg, ms, F, B, Lg, fm, mS, FA, _⟩
  · obtain ⟨dx, s, k, u, h, _⟩ := FA.o
    exact ⟨_, _, _, _, _, _, _, _, h⟩
  · obtain ⟨dx, s, k, u, h, _⟩ := FA.o
    exact ⟨_, _, _, _, _, _, _, _, h⟩
theorem AskC.same {K : PySem.W.Frag} {f : Addr} {H H1 : Hp} {Q : VK} {D : Fs → Nat → Dr} (h : AskC K f H Q D) (s : Same H H1) : AskC K f H1 Q D := by
  rcases h with ⟨ms, F, FA, q⟩ | ⟨d, bl, lg, ms, F, B, Lg, fm, mS, FA, D', g, e, o⟩
  · exact .inl ⟨ms, F, FA.same s, fun H' s' => q H' (s.trans s')⟩
  · exact .inr ⟨d, bl, lg, ms, F, B, Lg, fm, fun a ha => by
      obtain ⟨o', ho⟩ := Option.isSome_iff_exists.mp (mS a ha)
      rw [s _ _ ho]
      rfl, FA.same s, D'.same s, g, fun x ex H' s' => e x ex H' (s.trans s'), fun r er' H' k FA' => o r er' H' (keep_pre s k) FA'⟩
end SP

set_option Elab.async false
set_option linter.all false
set_option maxRecDepth 100000
set_option maxHeartbeats 4000000
/-! The law of the bytes of files. -/
namespace SP
open PySem PySem.Spec PyProof.Rows L2 L2H
local macro_rules | `(tactic| walk_at "hp") => `(tactic| first
  | assumption
  | exact upd_same
  | (refine' sameAt ?sA ?hA; (case sA => assumption); (case hA => walk_at "hp"))
  | (refine' Eq.trans (upd_ne ?nA) ?hA; (case nA => walk_at "ne"); (case hA => walk_at "hp")))
local macro_rules | `(tactic| walk_at "ne") => `(tactic| first
  | assumption
  | (refine' Ne.symm ?hA; assumption)
  | (refine' ne_of_none (H := _) ?hA (by assumption); walk_at "hp")
  | (refine' Ne.symm (ne_of_none (H := _) ?hA (by assumption)); walk_at "hp")
  | (refine' ne_of ?hA ?hB ?hC; (case hA => assumption); (case hB => walk_at "hp"); (case hC => (intro z; cases z))))
local macro_rules | `(tactic| walk_at "sm") => `(tactic| first
  | exact Same.refl _
  | assumption
  | (refine' sameTr ?sA ?sB; (case sA => assumption); (case sB => walk_at "sm")))
local macro_rules | `(tactic| walk_at "dm") => `(tactic| first
  | exact dmRefl
  | assumption
  | (refine' dmUpd ?dA; (case dA => walk_at "dm"))
  | (refine' dmSame ?sA ?dA; (case sA => assumption); (case dA => walk_at "dm")))
local macro_rules | `(tactic| walk_at "fr") => `(tactic| first
  | assumption
  | (refine' dmAt ?dA ?hA; (case hA => assumption); (case dA => walk_at "dm")))
local macro_rules | `(tactic| walk_at "ab") => `(tactic| (exfalso; refine absurd ?hA (noneSome ?hB); (case hB => walk_at "hp"); (case hA => assumption)))
local macro_rules | `(tactic| walk_at "kp") => `(tactic| first
  | exact Keep.refl
  | assumption
  | (refine' Keep.trans ?kA (keepUpd ?kB ?kC ?kD); (case kB => simp); (case kC => walk_at "hp"); (case kD => (intro xs z; cases z)); (case kA => walk_at "kp"))
  | (refine' keepTr ?kB ?kA; (case kB => assumption); (case kA => walk_at "kp"))
  | (refine' keepSm ?kB ?kA; (case kB => assumption); (case kA => walk_at "kp")))
local macro_rules | `(tactic| walk_at "get") => `(tactic| first
  | (refine' x_get_Files_state ?T ?h ?_) | (refine' x_get_Thing_kind ?T ?h ?_) | (refine' x_get_Thing_entries ?T ?h ?_) | (refine' x_get_Thing_held ?T ?h ?_)
  | (refine' x_get_Files_disk ?T ?h ?_) | (refine' x_get_Files_kept ?T ?h ?_) | (refine' x_get_Files_used ?T ?h ?_)
  | (refine' x_get_Disk_blocks ?T ?h ?_) | (refine' x_get_Disk_log ?T ?h ?_)
  | (refine' x_get_Reader_row ?T ?h ?_) | (refine' x_get_Reader_at ?T ?h ?_) | (refine' x_get_Reader_good ?T ?h ?_)
  | (refine' x_get_Files_slot ?T ?h ?_) | (refine' x_get_Files_turn ?T ?h ?_) | (refine' x_get_Files_is_new ?T ?h ?_))
local macro_rules | `(tactic| walk_at "set") => `(tactic| first
  | ((with_reducible refine' x_set_Disk_blocks ?T ?h ?_); (case T => assumption); (case h => walk_at "hp"))
  | ((with_reducible refine' i_set_Disk_blocks ?T ?h ?_); (case T => assumption); (case h => walk_at "hp"))
  | ((with_reducible refine' x_set_Disk_log ?T ?h ?_); (case T => assumption); (case h => walk_at "hp"))
  | ((with_reducible refine' i_set_Disk_log ?T ?h ?_); (case T => assumption); (case h => walk_at "hp"))
  | ((with_reducible refine' x_set_Thing_kind ?T ?h ?_); (case T => assumption); (case h => walk_at "hp"))
  | ((with_reducible refine' i_set_Thing_kind ?T ?h ?_); (case T => assumption); (case h => walk_at "hp"))
  | ((with_reducible refine' x_set_Thing_held ?T ?h ?_); (case T => assumption); (case h => walk_at "hp"))
  | ((with_reducible refine' i_set_Thing_held ?T ?h ?_); (case T => assumption); (case h => walk_at "hp"))
  | ((with_reducible refine' x_set_Thing_entries ?T ?h ?_); (case T => assumption); (case h => walk_at "hp"))
  | ((with_reducible refine' i_set_Thing_entries ?T ?h ?_); (case T => assumption); (case h => walk_at "hp"))
  | ((with_reducible refine' x_set_Reader_row ?T ?h ?_); (case T => assumption); (case h => walk_at "hp"))
  | ((with_reducible refine' i_set_Reader_row ?T ?h ?_); (case T => assumption); (case h => walk_at "hp"))
  | ((with_reducible refine' x_set_Reader_at ?T ?h ?_); (case T => assumption); (case h => walk_at "hp"))
  | ((with_reducible refine' i_set_Reader_at ?T ?h ?_); (case T => assumption); (case h => walk_at "hp"))
  | ((with_reducible refine' x_set_Reader_good ?T ?h ?_); (case T => assumption); (case h => walk_at "hp"))
  | ((with_reducible refine' i_set_Reader_good ?T ?h ?_); (case T => assumption); (case h => walk_at "hp"))
  | ((with_reducible refine' x_set_Files_disk ?T ?h ?_); (case T => assumption); (case h => walk_at "hp"))
  | ((with_reducible refine' i_set_Files_disk ?T ?h ?_); (case T => assumption); (case h => walk_at "hp"))
  | ((with_reducible refine' x_set_Files_state ?T ?h ?_); (case T => assumption); (case h => walk_at "hp"))
  | ((with_reducible refine' i_set_Files_state ?T ?h ?_); (case T => assumption); (case h => walk_at "hp"))
  | ((with_reducible refine' x_set_Files_kept ?T ?h ?_); (case T => assumption); (case h => walk_at "hp"))
  | ((with_reducible refine' i_set_Files_kept ?T ?h ?_); (case T => assumption); (case h => walk_at "hp"))
  | ((with_reducible refine' x_set_Files_slot ?T ?h ?_); (case T => assumption); (case h => walk_at "hp"))
  | ((with_reducible refine' i_set_Files_slot ?T ?h ?_); (case T => assumption); (case h => walk_at "hp"))
  | ((with_reducible refine' x_set_Files_turn ?T ?h ?_); (case T => assumption); (case h => walk_at "hp"))
  | ((with_reducible refine' i_set_Files_turn ?T ?h ?_); (case T => assumption); (case h => walk_at "hp"))
  | ((with_reducible refine' x_set_Files_used ?T ?h ?_); (case T => assumption); (case h => walk_at "hp"))
  | ((with_reducible refine' i_set_Files_used ?T ?h ?_); (case T => assumption); (case h => walk_at "hp"))
  | ((with_reducible refine' x_set_Files_is_new ?T ?h ?_); (case T => assumption); (case h => walk_at "hp"))
  | ((with_reducible refine' i_set_Files_is_new ?T ?h ?_); (case T => assumption); (case h => walk_at "hp")))
local macro_rules | `(tactic| walk_at "go1") => `(tactic| first
  | ((with_reducible refine w_var (v := ?vv) ?e ?_); (case e => rfl))
  | ((with_reducible walk_at "get"); (case T => assumption); (case h => walk_at "hp"))
  | (with_reducible refine x_bl ?_)
  | (with_reducible refine x_isN ?_) | (with_reducible refine x_notN ?_) | (with_reducible refine x_eqI ?_) | (with_reducible refine x_neI ?_) | (with_reducible refine x_eqS ?_) | (with_reducible refine x_neS ?_)
  | (with_reducible refine x_addI ?_) | (with_reducible refine x_subI ?_) | (with_reducible refine x_ltI ?_) | (with_reducible refine x_leI ?_) | (with_reducible refine x_gtI ?_) | (with_reducible refine x_geI ?_)
  | (with_reducible refine x_bv ?_) | (with_reducible refine x_part ?_) | (with_reducible refine x_neg ?_) | (with_reducible refine x_inS ?_)
  | (walk_at "set")
  | ((with_reducible refine' x_bmL ?h ?_); (case h => walk_at "hp")) | ((with_reducible refine' x_bmL0 ?h ?_); (case h => walk_at "hp")))
local macro_rules | `(tactic| walk_at "go") => `(tactic| ((try with_reducible (conv => whnf)); repeat ((walk_at "go1"); (try with_reducible (conv => whnf)))))
def wc : Deed → Prop
  | .write _ _ _ => True
  | .cut _ _ => True
  | _ => False
def sp__law_told (K : PySem.W.Frag) : Sp := fun vs H Q E => ∃ (f : Addr) (v : V) (D : Deed), vs = [.ref f, v] ∧ DeedAt H v D ∧ OkD D ∧ wc D ∧ AskC K f H Q (deedD D)
def t__law_told (K : PySem.W.Frag) (E : XK) (W : WX) : TS := uTryAs K (.ref (He.ga K "StillError")) 2 (fun W1 => uSeq (uIfS (uTest (uOp rEq (uOp (rIxT K) (tVar 1) (uC (.int 0))) (uC (.str "write")))) (uRet (uMethW (He.ga K "Files") "write" (sp_Files_write K) W1 (tVar 0) (uCons (uOp (rIxT K) (tVar 1) (uC (.int 1))) (uCons (uOp (rIxT K) (tVar 1) (uC (.int 2))) (uCons (uOp (rIxT K) (tVar 1) (uC (.int 3))) uNil))))) uNext)
    (uRet (uMethW (He.ga K "Files") "cut" (sp_Files_cut K) W1 (tVar 0) (uCons (uOp (rIxT K) (tVar 1) (uC (.int 1))) (uCons (uOp (rIxT K) (tVar 1) (uC (.int 2))) uNil))))) (fun a cls d => uRet (uWordS K a cls d (uCons (tVar 2) uNil))) W
theorem pure__law_told {K : PySem.W.Frag} (X : XK10 K) {vs : List V} {H : Hp} {Q : VK} {E : XK} (h : sp__law_told K vs H Q E) : t__law_told K E (WE1 E) (fin Q) (start ["_law_files", "_law_deed_here", "_law_e"] vs) H := by
  obtain ⟨f, v, D, rfl, hd, ok, w, A⟩ := h
  obtain ⟨dx, v0, v1, v2, v3, v4, v5, v6, ho⟩ := A.ins
  show t__law_told K E _ (fin Q) [some (.ref f), some v, none] H
  unfold t__law_told
  walk_at "go"
  cases D with
  | write n s r =>
    obtain ⟨t, a, rfl, ht, ha⟩ := hd
    refine x_ixT (SqT.of ht) (atI_of (by decide) rfl) ?_
    walk_at "go"
    refine x_ifT rfl ?_
    walk_at "go"
    refine x_meth_Files_write ho ?_
    walk_at "go"
    refine x_ixT (SqT.of ht) (atI_of (by decide) rfl) ?_
    walk_at "go"
    refine x_ixT (SqT.of ht) (atI_of (by decide) rfl) ?_
    walk_at "go"
    refine x_ixT (SqT.of ht) (atI_of (by decide) rfl) ?_
    walk_at "go"
    refine ⟨f, a, n, s, r, rfl, ok.1, ha, by have := ok.2.1; omega, A.deed (fun F c x g h => deed_err (D := .write n s r) g h) (fun x H' hx s q => ?_) (fun v H' q => q)⟩
    show wAs K _ _ _ _ _ _ _ _ _
    refine x_wAsT (X.exmS x hx) fun a na => ?_
    walk_at "go"
    refine ⟨x, hx, rfl, rfl, rfl, fun H3 s3 => ?_⟩
    exact q _ (s.trans s3)
  | cut n s =>
    obtain ⟨t, rfl, ht⟩ := hd
    refine x_ixT (SqT.of ht) (atI_of (by decide) rfl) ?_
    walk_at "go"
    refine x_ifF rfl ?_
    walk_at "go"
    refine x_meth_Files_cut ho ?_
    walk_at "go"
    refine x_ixT (SqT.of ht) (atI_of (by decide) rfl) ?_
    walk_at "go"
    refine x_ixT (SqT.of ht) (atI_of (by decide) rfl) ?_
    walk_at "go"
    refine ⟨f, n, s, rfl, ok, A.deed (fun F c x g h => deed_err (D := .cut n s) g h) (fun x H' hx s q => ?_) (fun v H' q => q)⟩
    show wAs K _ _ _ _ _ _ _ _ _
    refine x_wAsT (X.exmS x hx) fun a na => ?_
    walk_at "go"
    refine ⟨x, hx, rfl, rfl, rfl, fun H3 s3 => ?_⟩
    exact q _ (s.trans s3)
  | make p b => exact w.elim
  | link p q => exact w.elim
  | unlink p => exact w.elim
  | rename p q => exact w.elim
  | snap z => exact w.elim
  | unsnap z => exact w.elim
/-! ### what is due -/
def chg (held : List Int) : Deed → V × List Int
  | .write _ s r => if 600 < s + (r.length : Int) then (.str "TooGreat", held) else if r = [] then (.int 0, held) else (.int (r.length : Int), wrL held s r)
  | .cut _ s => if 600 < s then (.str "TooGreat", held) else (.non, ctL held s)
  | _ => (.non, held)
/-- the pair that is told: the list may be the one that was handed in -/
def sp__law_changed (K : PySem.W.Frag) : Sp := fun vs H Q E => ∃ (a : Addr) (v : V) (D : Deed) (held : List Int), vs = [.ref a, v] ∧ DeedAt H v D ∧ OkD D ∧ wc D ∧ H a = some (.lst (held.map V.int)) ∧ held.length ≤ 600 ∧
  ∀ p b H', Same H H' → H' p = some (.tup [(chg held D).1, .ref b]) → H' b = some (.lst ((chg held D).2.map V.int)) → (b = a ∨ H b = none) → Q (.ref p) H'
def t__law_changed (K : PySem.W.Frag) (W : WX) : TS := uSeq (uIfS (uTest (uOp rEq (uOp (rIxT K) (tVar 1) (uC (.int 0))) (uC (.str "write")))) (uSeq (uAsg (uOp rAddI (uOp (rIxT K) (tVar 1) (uC (.int 2))) (uCB (cLenQ K) (uCons (uOp (rIxT K) (tVar 1) (uC (.int 3))) uNil))) (vName 2))
    (uSeq (uIfS (uTest (uOp rGtI (tVar 2) (uC (.int 600)))) (uRet (uTup (uCons (uC (.str "TooGreat")) (uCons (tVar 0) uNil)))) uNext)
    (uSeq (uIfS (uTest (uOp (rEqD K) (uOp (rIxT K) (tVar 1) (uC (.int 3))) (uLst uNil))) (uRet (uTup (uCons (uC (.int 0)) (uCons (tVar 0) uNil)))) uNext)
    (uSeq (uAsg (uOp rCat (tVar 0) (uOp rRep (uLst (uCons (uC (.int 0)) uNil)) (uOp rSubI (uOp (rIxT K) (tVar 1) (uC (.int 2))) (uCB (cLenQ K) (uCons (tVar 0) uNil))))) (vName 3))
    (uRet (uTup (uCons (uCB (cLenQ K) (uCons (uOp (rIxT K) (tVar 1) (uC (.int 3))) uNil)) (uCons (uOp rCat (uOp rCat (uSl (rSlL K) (tVar 3) uNoPart (uPart (uOp (rIxT K) (tVar 1) (uC (.int 2))))) (uOp (rIxT K) (tVar 1) (uC (.int 3)))) (uSl (rSlL K) (tVar 3) (uPart (tVar 2)) uNoPart)) uNil)))))))) uNext)
    (uSeq (uIfS (uTest (uOp rGtI (uOp (rIxT K) (tVar 1) (uC (.int 2))) (uC (.int 600)))) (uRet (uTup (uCons (uC (.str "TooGreat")) (uCons (tVar 0) uNil)))) uNext)
    (uRet (uTup (uCons (uC .non) (uCons (uOp rCat (uSl (rSlL K) (tVar 0) uNoPart (uPart (uOp (rIxT K) (tVar 1) (uC (.int 2))))) (uOp rRep (uLst (uCons (uC (.int 0)) uNil)) (uOp rSubI (uOp (rIxT K) (tVar 1) (uC (.int 2))) (uCB (cLenQ K) (uCons (tVar 0) uNil))))) uNil)))))
theorem pure__law_changed {K : PySem.W.Frag} {vs : List V} {H : Hp} {Q : VK} {E : XK} (h : sp__law_changed K vs H Q E) : t__law_changed K (WE1 E) (fin Q) (start ["_law_held", "_law_deed_here", "_law_end", "_law_wide"] vs) H := by
  obtain ⟨a, v, D, held, rfl, hd, ok, w, hh, lh, q⟩ := h
  show t__law_changed K _ (fin Q) [some (.ref a), some v, none, none] H
  unfold t__law_changed
  walk_at "go"
  cases D with
  | write n s r =>
    obtain ⟨t, b, rfl, ht, hb⟩ := hd
    obtain ⟨o1, o2, o3⟩ := ok
    have q : ∀ p c H', Same H H' → H' p = some (.tup [(if 600 < s + (r.length : Int) then (V.str "TooGreat", held) else if r = [] then (V.int 0, held) else (V.int (r.length : Int), wrL held s r)).1, .ref c]) → H' c = some (.lst ((if 600 < s + (r.length : Int) then (V.str "TooGreat", held) else if r = [] then (V.int 0, held) else (V.int (r.length : Int), wrL held s r)).2.map V.int)) → (c = a ∨ H c = none) → Q (.ref p) H' := q
    refine x_ixT (SqT.of ht) (atI_of (by decide) rfl) ?_
    walk_at "go"
    refine x_ifT rfl ?_
    walk_at "go"
    refine x_ixT (SqT.of ht) (atI_of (by decide) rfl) ?_
    walk_at "go"
    refine x_ixT (SqT.of ht) (atI_of (by decide) rfl) ?_
    walk_at "go"
    refine x_lenL hb ?_
    rw [List.length_map]
    walk_at "go"
    by_cases c : 600 < s + (r.length : Int)
    · rw [if_pos c] at q
      refine x_ifT (decide_eq_true c) ?_
      walk_at "go"
      refine x_tup fun p H1 np hp s1 => ?_
      exact q p a H1 s1 hp (s1 _ _ hh) (.inl rfl)
    rw [if_neg c] at q
    refine x_ifF (decide_eq_false c) ?_
    walk_at "go"
    refine x_ixT (SqT.of ht) (atI_of (by decide) rfl) ?_
    walk_at "go"
    refine x_lst fun l H1 nl hl s1 => ?_
    refine x_eqD (.lst (SqL.of (s1 _ _ hb)) (dpAll_ints r)) (.lst (SqL.of hl) .nil) (shaped_ints r) rfl ?_
    rw [eqv_nilI]
    walk_at "go"
    by_cases c0 : r = []
    · rw [if_pos c0] at q
      refine x_ifT (decide_eq_true c0) ?_
      walk_at "go"
      refine x_tup fun p H2 np hp s2 => ?_
      exact q p a H2 (s1.trans s2) hp (s2 _ _ (s1 _ _ hh)) (.inl rfl)
    rw [if_neg c0] at q
    refine x_ifF (decide_eq_false c0) ?_
    walk_at "go"
    refine x_lst fun l1 H3 n3 h3' s3 => ?_
    have ht := s3 _ _ (s1 _ _ ht)
    have hb := s3 _ _ (s1 _ _ hb)
    have hh := s3 _ _ (s1 _ _ hh)
    walk_at "go"
    refine x_ixT (SqT.of ht) (atI_of (by decide) rfl) ?_
    walk_at "go"
    refine x_lenL hh ?_
    rw [List.length_map]
    walk_at "go"
    refine x_rep h3' (by omega) (by omega) (by rw [sizeLine_eq]; show 1 * _ ≤ _; omega) fun l2 H4 n4 h4' s4 => ?_
    have e0 : (List.replicate (s - (held.length : Int)).toNat [V.int 0]).flatten = (List.replicate (s - (held.length : Int)).toNat (0 : Int)).map V.int := by
      rw [flat_one, List.map_replicate]
    rw [e0] at h4'
    refine x_cat (s4 _ _ hh) h4' (by rw [sizeLine_eq, List.length_map, List.length_map, List.length_replicate]; omega) fun l3 H5 n5 h5 s5 => ?_
    rw [← List.map_append] at h5
    have ew : wrL held s r = (held ++ List.replicate (s - (held.length : Int)).toNat 0).take s.toNat ++ r ++ (held ++ List.replicate (s - (held.length : Int)).toNat 0).drop (s.toNat + r.length) := rfl
    have lw : (held ++ List.replicate (s - (held.length : Int)).toNat 0).length ≤ 600 := by rw [List.length_append, List.length_replicate]; omega
    generalize held ++ List.replicate (s - (held.length : Int)).toNat 0 = hw at h5 ew lw
    have s05 := (((s1.trans s3).trans s4).trans s5)
    have ht := s5 _ _ (s4 _ _ ht)
    have hb := s5 _ _ (s4 _ _ hb)
    walk_at "go"
    refine x_ixT (SqT.of ht) (atI_of (by decide) rfl) ?_
    walk_at "go"
    refine x_lenL hb ?_
    rw [List.length_map]
    walk_at "go"
    refine x_ixT (SqT.of ht) (atI_of (by decide) rfl) ?_
    walk_at "go"
    refine x_slL (SqL.of h5) fun m1 H6 n6 h6 s6 => ?_
    rw [cutV_to o1] at h6
    walk_at "go"
    refine x_ixT (SqT.of (s6 _ _ ht)) (atI_of (by decide) rfl) ?_
    refine x_cat h6 (s6 _ _ hb) (by rw [sizeLine_eq, List.length_map, List.length_map, List.length_take]; omega) fun m3 H8 n8 h8 s8 => ?_
    rw [← List.map_append] at h8
    walk_at "go"
    refine x_slL (SqL.of (s8 _ _ (s6 _ _ h5))) fun m4 H9 n9 h9 s9 => ?_
    rw [cutV_fromI (by omega), show (s + (r.length : Int)).toNat = s.toNat + r.length by omega] at h9
    refine x_cat (s9 _ _ h8) h9 (by rw [sizeLine_eq, List.length_map, List.length_map, List.length_append, List.length_take, List.length_drop]; omega) fun m5 H10 n10 h10 s10 => ?_
    rw [← List.map_append, ← ew] at h10
    walk_at "go"
    have s59 := ((s6.trans s8).trans s9)
    refine x_tup fun p H11 np hp s11 => ?_
    exact q p m5 H11 (((s05.trans s59).trans s10).trans s11) hp (s11 _ _ h10) (.inr ((s05.trans s59).free n10))
  | cut n s =>
    obtain ⟨t, rfl, ht⟩ := hd
    have ok : 0 ≤ s := ok
    have q : ∀ p c H', Same H H' → H' p = some (.tup [(if 600 < s then (V.str "TooGreat", held) else (V.non, ctL held s)).1, .ref c]) → H' c = some (.lst ((if 600 < s then (V.str "TooGreat", held) else (V.non, ctL held s)).2.map V.int)) → (c = a ∨ H c = none) → Q (.ref p) H' := q
    refine x_ixT (SqT.of ht) (atI_of (by decide) rfl) ?_
    walk_at "go"
    refine x_ifF rfl ?_
    walk_at "go"
    refine x_ixT (SqT.of ht) (atI_of (by decide) rfl) ?_
    walk_at "go"
    by_cases c : 600 < s
    · rw [if_pos c] at q
      refine x_ifT (decide_eq_true c) ?_
      walk_at "go"
      refine x_tup fun p H1 np hp s1 => ?_
      exact q p a H1 s1 hp (s1 _ _ hh) (.inl rfl)
    rw [if_neg c] at q
    refine x_ifF (decide_eq_false c) ?_
    walk_at "go"
    refine x_ixT (SqT.of ht) (atI_of (by decide) rfl) ?_
    walk_at "go"
    refine x_slL (SqL.of hh) fun l1 H6 n6 h6 s6 => ?_
    rw [cutV_to ok] at h6
    walk_at "go"
    refine x_lst fun l2 H7 n7 h7 s7 => ?_
    walk_at "go"
    refine x_ixT (SqT.of (s7 _ _ (s6 _ _ ht))) (atI_of (by decide) rfl) ?_
    walk_at "go"
    refine x_lenL (s7 _ _ (s6 _ _ hh)) ?_
    rw [List.length_map]
    walk_at "go"
    refine x_rep h7 (by omega) (by omega) (by rw [sizeLine_eq]; show 1 * _ ≤ _; omega) fun l3 H8 n8 h8 s8 => ?_
    have e0 : (List.replicate (s - (held.length : Int)).toNat [V.int 0]).flatten = (List.replicate (s - (held.length : Int)).toNat (0 : Int)).map V.int := by
      rw [flat_one, List.map_replicate]
    rw [e0] at h8
    refine x_cat (s8 _ _ (s7 _ _ h6)) h8 (by rw [sizeLine_eq, List.length_map, List.length_map, List.length_replicate, List.length_take]; omega) fun l4 H9 n9 h9 s9 => ?_
    rw [← List.map_append] at h9
    have h9 : H9 l4 = some (.lst ((ctL held s).map V.int)) := h9
    walk_at "go"
    have s68 := ((s6.trans s7).trans s8)
    refine x_tup fun p H11 np hp s11 => ?_
    exact q p l4 H11 ((s68.trans s9).trans s11) hp (s11 _ _ h9) (.inr (s68.free n9))
  | make p b => exact w.elim
  | link p q => exact w.elim
  | unlink p => exact w.elim
  | rename p q => exact w.elim
  | snap z => exact w.elim
  | unsnap z => exact w.elim
/-! ### a deed, whichever -/
def sp__law_deed (K : PySem.W.Frag) : Sp := fun vs H Q E => ∃ (c m n s : Int), vs = [.int c, .int m, .int n, .int s] ∧ 0 ≤ m ∧ 0 ≤ s ∧ s ≤ 600 ∧
  ∀ v D H', OkD D → (∃ st row, D = .write n st row) ∨ (∃ sz, D = .cut n sz) → Same H H' → DeedAt H' v D → (∀ n' st row, D = .write n' st row → ∃ t a, v = .ref t ∧ H a = none ∧ H' t = some (.tup [.str "write", .int n', .int st, .ref a]) ∧ H' a = some (.lst (row.map V.int))) → Q v H'
def t__law_deed (K : PySem.W.Frag) (W : WX) : TS := uSeq (uAsg (uOp (rIxL K) (uLst (uCons (uC (.int 0)) (uCons (tVar 3) (uCons (uOp rModI (uOp rDivI (tVar 1) (uC (.int 8))) (uC (.int 650))) (uCons (uCB cMax2 (uCons (uC (.int 0)) (uCons (uOp rSubI (tVar 3) (uOp rModI (uOp rDivI (tVar 1) (uC (.int 8))) (uC (.int 20)))) uNil))) (uCons (uOp rAddI (tVar 3) (uOp rModI (uOp rDivI (tVar 1) (uC (.int 8))) (uC (.int 30)))) (uCons (uC (.int 600)) uNil))))))) (uOp rModI (tVar 1) (uC (.int 6)))) (vName 4))
    (uSeq (uIfS (uTest (uOp rEq (uOp rModI (uOp rDivI (tVar 1) (uC (.int 48))) (uC (.int 3))) (uC (.int 0)))) (uRet (uTup (uCons (uC (.str "cut")) (uCons (tVar 2) (uCons (uOp (rIxL K) (uLst (uCons (tVar 4) (uCons (uOp rModI (uOp rDivI (tVar 1) (uC (.int 1000))) (uC (.int 605))) (uCons (uOp rShl (uC (.int 1)) (uC (.int 39))) uNil)))) (uOp rModI (uOp rDivI (tVar 1) (uC (.int 144))) (uC (.int 3)))) uNil))))) uNext)
    (uSeq (uAsg (uOp (rIxL K) (uLst (uCons (uC (.int 0)) (uCons (uOp rAddI (uC (.int 1)) (uOp rModI (uOp rDivI (tVar 1) (uC (.int 1000))) (uC (.int 9)))) (uCons (uOp rModI (uOp rDivI (tVar 1) (uC (.int 1000))) (uC (.int 90))) (uCons (uOp rAddI (uCB cMax2 (uCons (uC (.int 0)) (uCons (uOp rSubI (uC (.int 600)) (tVar 4)) uNil))) (uOp rModI (uOp rDivI (tVar 1) (uC (.int 1000))) (uC (.int 2)))) uNil))))) (uOp rModI (uOp rDivI (tVar 1) (uC (.int 144))) (uC (.int 4)))) (vName 5))
    (uRet (uTup (uCons (uC (.str "write")) (uCons (tVar 2) (uCons (tVar 4) (uCons (uLc (jRng1 (uCons (tVar 5) uNil)) (vName 6) tYes (uOp rModI (uOp rAddI (tVar 0) (uOp rMulI (tVar 6) (tVar 1))) (uC (.int 256))) [6]) uNil))))))))
theorem pure__law_deed {K : PySem.W.Frag} {vs : List V} {H : Hp} {Q : VK} {E : XK} (h : sp__law_deed K vs H Q E) : t__law_deed K (WE1 E) (fin Q) (start ["_law_cell_here", "_law_more", "_law_number", "_law_size", "_law_start", "_law_many", "_law_j"] vs) H := by
  obtain ⟨c, m, n, s, rfl, hm, hs0, hs1, q⟩ := h
  show t__law_deed K _ (fin Q) [some (.int c), some (.int m), some (.int n), some (.int s), none, none, none] H
  unfold t__law_deed
  walk_at "go"
  refine x_divI ⟨by decide, by decide⟩ ?_
  walk_at "go"
  refine x_modI (by decide) ?_
  walk_at "go"
  refine x_divI ⟨by decide, by decide⟩ ?_
  walk_at "go"
  refine x_modI (by decide) ?_
  walk_at "go"
  refine ⟨_, _, rfl, ?_⟩
  walk_at "go"
  refine x_divI ⟨by decide, by decide⟩ ?_
  walk_at "go"
  refine x_modI (by decide) ?_
  walk_at "go"
  have a0 := Int.emod_nonneg (m / 8) (show (650 : Int) ≠ 0 by decide)
  have a1 := Int.emod_lt_of_pos (m / 8) (show (0 : Int) < 650 by decide)
  have b0 := Int.emod_nonneg (m / 8) (show (20 : Int) ≠ 0 by decide)
  have b1 := Int.emod_lt_of_pos (m / 8) (show (0 : Int) < 20 by decide)
  have c0 := Int.emod_nonneg (m / 8) (show (30 : Int) ≠ 0 by decide)
  have c1 := Int.emod_lt_of_pos (m / 8) (show (0 : Int) < 30 by decide)
  refine x_lst fun l H1 nl hl s1 => ?_
  walk_at "go"
  refine x_modI (by decide) ?_
  refine x_ixInt (xs := [0, s, m / 8 % 650, (if s - m / 8 % 20 > 0 then s - m / 8 % 20 else 0), s + m / 8 % 30, 600]) hl (Int.emod_nonneg _ (by decide)) (Int.emod_lt_of_pos _ (by decide)) fun st hst => ?_
  have hst : 0 ≤ st ∧ st ≤ 650 := by
    simp only [List.mem_cons, List.not_mem_nil, or_false] at hst
    rcases hst with h | h | h | h | h | h
    · omega
    · omega
    · omega
    · split at h <;> omega
    · omega
    · omega
  walk_at "go"
  refine x_divI ⟨by decide, by decide⟩ ?_
  walk_at "go"
  refine x_modI (by decide) ?_
  walk_at "go"
  refine x_if (fun _ => ?_) (fun _ => ?_)
  · walk_at "go"
    refine x_divI ⟨by decide, by decide⟩ ?_
    walk_at "go"
    refine x_modI (by decide) ?_
    walk_at "go"
    refine x_shl ⟨by decide, by decide, by decide⟩ ?_
    walk_at "go"
    refine x_lst fun l2 H2 n2 h2 s2 => ?_
    walk_at "go"
    refine x_divI ⟨by decide, by decide⟩ ?_
    walk_at "go"
    refine x_modI (by decide) ?_
    have d0 := Int.emod_nonneg (m / 1000) (show (605 : Int) ≠ 0 by decide)
    refine x_ixInt (xs := [st, m / 1000 % 605, 1 * 2 ^ (Int.toNat 39)]) h2 (Int.emod_nonneg _ (by decide)) (Int.emod_lt_of_pos _ (by decide)) fun sz hsz => ?_
    have hsz : 0 ≤ sz := by
      simp only [List.mem_cons, List.not_mem_nil, or_false] at hsz
      rcases hsz with h | h | h
      · omega
      · omega
      · rw [h]; decide
    walk_at "go"
    refine x_tup fun p H3 np hp s3 => ?_
    exact q _ (.cut n sz) H3 hsz (.inr ⟨sz, rfl⟩) ((s1.trans s2).trans s3) ⟨p, rfl, hp⟩ (fun _ _ _ z => by cases z)
  · walk_at "go"
    refine x_divI ⟨by decide, by decide⟩ ?_
    walk_at "go"
    refine x_modI (by decide) ?_
    walk_at "go"
    refine x_divI ⟨by decide, by decide⟩ ?_
    walk_at "go"
    refine x_modI (by decide) ?_
    walk_at "go"
    refine ⟨_, _, rfl, ?_⟩
    walk_at "go"
    refine x_divI ⟨by decide, by decide⟩ ?_
    walk_at "go"
    refine x_modI (by decide) ?_
    walk_at "go"
    refine x_lst fun l2 H2 n2 h2 s2 => ?_
    walk_at "go"
    refine x_divI ⟨by decide, by decide⟩ ?_
    walk_at "go"
    refine x_modI (by decide) ?_
    have d0 := Int.emod_nonneg (m / 1000) (show (9 : Int) ≠ 0 by decide)
    have d1 := Int.emod_lt_of_pos (m / 1000) (show (0 : Int) < 9 by decide)
    have e0 := Int.emod_nonneg (m / 1000) (show (90 : Int) ≠ 0 by decide)
    have e1 := Int.emod_lt_of_pos (m / 1000) (show (0 : Int) < 90 by decide)
    have f0 := Int.emod_nonneg (m / 1000) (show (2 : Int) ≠ 0 by decide)
    have f1 := Int.emod_lt_of_pos (m / 1000) (show (0 : Int) < 2 by decide)
    refine x_ixInt (xs := [0, 1 + m / 1000 % 9, m / 1000 % 90, (if 600 - st > 0 then 600 - st else 0) + m / 1000 % 2]) h2 (Int.emod_nonneg _ (by decide)) (Int.emod_lt_of_pos _ (by decide)) fun mn hmn => ?_
    have hmn : 0 ≤ mn ∧ mn ≤ 700 := by
      simp only [List.mem_cons, List.not_mem_nil, or_false] at hmn
      rcases hmn with h | h | h | h
      · omega
      · omega
      · omega
      · split at h <;> omega
    walk_at "go"
    refine x_rng1 (by omega) (by omega) ?_
    refine x_lcR (n := mn.toNat) (fun i y _ => y = .int ((c + (0 + (i : Int)) * m) % 256)) (fun _ _ _ _ _ h => h) (by omega) (fun i A H3 P hi nA hA s3 hP => ⟨rfl, ?_⟩) (fun A H3 acc nA hA lA s3 hacc => ?_)
    · walk_at "go"
      refine x_mulI (.inl ⟨by omega, by omega⟩) ?_
      walk_at "go"
      refine x_modI (by decide) ?_
      exact hP _ _ (Same.refl _) rfl
    · have ea : acc = ((List.range mn.toNat).map fun i : Nat => (c + (0 + (i : Int)) * m) % 256).map V.int := by
        rw [List.map_map]
        exact list_is lA hacc
      have hby : ∀ b ∈ (List.range mn.toNat).map fun i : Nat => (c + (0 + (i : Int)) * m) % 256, 0 ≤ b ∧ b < 256 := fun b hb => by
        obtain ⟨i, _, rfl⟩ := List.mem_map.mp hb
        exact ⟨Int.emod_nonneg _ (by decide), Int.emod_lt_of_pos _ (by decide)⟩
      have hbl : ((List.range mn.toNat).map fun i : Nat => (c + (0 + (i : Int)) * m) % 256).length ≤ 700 := by
        rw [List.length_map, List.length_range]
        omega
      generalize ((List.range mn.toNat).map fun i : Nat => (c + (0 + (i : Int)) * m) % 256) = row at ea hby hbl
      subst ea
      walk_at "go"
      refine x_tup fun p H4 np hp s4 => ?_
      refine q _ (.write n st row) H4 ⟨hst.1, by omega, hby⟩ (.inl ⟨st, row, rfl⟩) (((s1.trans s2).trans s3).trans s4) ⟨p, A, rfl, hp, s4 _ _ hA⟩ (fun n' st' row' z => ?_)
      cases z
      exact ⟨p, A, rfl, (s1.trans s2).free nA, hp, s4 _ _ hA⟩
end SP

set_option Elab.async false
set_option linter.all false
set_option maxRecDepth 100000
set_option maxHeartbeats 4000000
/-! Live files: all that a call wants of them, and how they stand through changes elsewhere. -/
namespace SP
open PySem PySem.Spec PyProof.Rows L2
theorem linkD_ok {F : Fs} {count : Nat} {p q : Str} {ns os : List Str} {n pl : Int} {S : St} (e1 : partsOf p = some ns) (e2 : partsOf q = some os) (e3 : walkedF F.S 0 ns = .ok n) (e4 : ((lk F.S n).getD thD).dir = false) (e5 : placeFor F.S os = .ok pl) (h2 : ((lk F.S pl).getD thD).ents.length ≠ 40) (e6 : entS F.S pl (lastOf os) n = S)
    (w : Ws S) (wn : Wn F.L) (h3 : room (szI S F.L) F.used count = true) : linkD F count p q = .ok (some (S, F.L), none) := by
  unfold linkD
  rw [e1, e2]
  show (match walkedF F.S 0 ns with | .error x => _ | .ok n => _) = _
  rw [e3]
  show (if ((lk F.S n).getD thD).dir = true then _ else _) = _
  rw [if_neg (by rw [e4]; decide)]
  show (match placeFor F.S os with | .error x => _ | .ok pl => _) = _
  rw [e5]
  show (if ((lk F.S pl).getD thD).ents.length = 40 then _ else _) = _
  rw [if_neg h2, e6]
  unfold become
  rw [if_pos ((roomOk_iff w wn).mpr h3)]
def isOk (r : Except Str Int) (n : Int) : Bool := match r with
  | .ok i => decide (i = n)
  | .error _ => false
theorem isOk_ok {r : Except Str Int} {n : Int} (h : isOk r n = true) : r = .ok n := by
  match r, h with
  | .ok i, h => rw [of_decide_eq_true h]
theorem updKeep {H : Hp} {a : Addr} {o o0 : HO} (h : H a = some o0) (hn : ∀ xs, o0 ≠ .tup xs) : Keep [a] H (upd H a o) := keepUpd (by simp) h hn
theorem same_some {H H' : Hp} {ms : List Addr} (k : Same H H') (h : ∀ x ∈ ms, (H x).isSome = true) : ∀ x ∈ ms, (H' x).isSome = true := fun x hx => by
  obtain ⟨o, ho⟩ := Option.isSome_iff_exists.mp (h x hx)
  rw [k _ _ ho]
  rfl
theorem keep_some {H H' : Hp} {ns ms : List Addr} (k : Keep ns H H') (hf : ∀ x ∈ ns, (H' x).isSome = true) (h : ∀ x ∈ ms, (H x).isSome = true) : ∀ x ∈ ms, (H' x).isSome = true := fun x hx => by
  by_cases c : x ∈ ns
  · exact hf x c
  · obtain ⟨o, ho⟩ := Option.isSome_iff_exists.mp (h x hx)
    rw [k.k _ _ c ho]
    rfl
theorem FilesAt.some {K : PySem.W.Frag} {H : Hp} {f : Addr} {dv : V} {ms : List Addr} {F : Fs} (FA : FilesAt K ms H f dv F) : (H f).isSome = true := by
  obtain ⟨_, _, _, _, hf, _⟩ := FA.o
  rw [hf]
  rfl
theorem FilesAt.mono {K : PySem.W.Frag} {H : Hp} {f : Addr} {dv : V} {ms ns : List Addr} {F : Fs} (FA : FilesAt K ms H f dv F) (s : Same (av ms H) (av ns H)) : FilesAt K ns H f dv F := by
  obtain ⟨dx, st, kp, us, h1, h2, h3, h4⟩ := FA.o
  exact ⟨⟨dx, st, kp, us, h1, h2.same s, h3.same s, s _ _ h4⟩⟩
theorem av_sub {ms ns : List Addr} {H : Hp} (s : ∀ a ∈ ns, a ∈ ms) : Same (av ms H) (av ns H) := fun a o h => by
  obtain ⟨n, h⟩ := av_of h
  exact av_at h fun z => n (s a z)
/-- what was new ahead is none of what they hold -/
theorem FilesAt.add {K : PySem.W.Frag} {H H' : Hp} {f g : Addr} {dv : V} {ms : List Addr} {F : Fs} (FA : FilesAt K ms H f dv F) (n : H g = none) (s : Same H H') : FilesAt K (g :: ms) H' f dv F := by
  obtain ⟨dx, st, kp, us, h1, h2, h3, h4⟩ := FA.o
  have z : Same (av ms H) (av (g :: ms) H') := fun a o h => by
    obtain ⟨m, h⟩ := av_of h
    refine av_at (s _ _ h) fun q => ?_
    rcases List.mem_cons.mp q with e | q
    · rw [e, n] at h
      cases h
    · exact m q
  exact ⟨⟨dx, st, kp, us, s _ _ h1, h2.same z, h3.same z, z _ _ h4⟩⟩
/-- files on a disk: all that a call needs; ms: what may change -/
structure Live (K : PySem.W.Frag) (ms : List Addr) (H : Hp) (f d bl lg : Addr) (B : List (Option (List Int))) (Lg : List Ent) (F : Fs) : Prop where
  fa : FilesAt K ms H f (.ref d) F
  dk : DiskAt K H d bl lg B Lg
  so : ∀ x ∈ ms, (H x).isSome = true
  fm : f ∈ ms
  bm : bl ∈ ms
  lm : lg ∈ ms
  gd : Good F
section
variable {K : PySem.W.Frag} {ms ns : List Addr} {H H' : Hp} {f d bl lg g : Addr} {B : List (Option (List Int))} {Lg : List Ent} {F F' : Fs} {Q : VK} {E : XK} {D : Fs → Nat → Dr}
theorem Live.ins (L : Live K ms H f d bl lg B Lg F) : ∃ dx v0 v1 v2 v3 v4 v5 v6, H f = some (oFiles K dx v0 v1 v2 v3 v4 v5 v6) := by
  obtain ⟨dx, s, k, u, h, _⟩ := L.fa.o
  exact ⟨_, _, _, _, _, _, _, _, h⟩
theorem Live.ne_l (L : Live K ms H f d bl lg B Lg F) {a : Addr} {xs : List V} (h : H a = some (.lst xs)) : a ≠ f := by
  obtain ⟨_, _, _, _, _, _, _, _, hf⟩ := L.ins
  exact ne_of h hf (by intro z; cases z)
theorem Live.ne_d (L : Live K ms H f d bl lg B Lg F) {a : Addr} {xs : List (Key × V)} (h : H a = some (.dK xs)) : a ≠ f := by
  obtain ⟨_, _, _, _, _, _, _, _, hf⟩ := L.ins
  exact ne_of h hf (by intro z; cases z)
theorem Live.ne_t (L : Live K ms H f d bl lg B Lg F) {a : Addr} {xs : List V} (h : H a = some (.tup xs)) : a ≠ f := by
  obtain ⟨_, _, _, _, _, _, _, _, hf⟩ := L.ins
  exact ne_of h hf (by intro z; cases z)
theorem Live.df (L : Live K ms H f d bl lg B Lg F) : d ≠ f ∧ bl ≠ f ∧ lg ≠ f := by
  obtain ⟨_, _, _, _, _, _, _, _, hf⟩ := L.ins
  obtain ⟨ex, hod⟩ := L.dk.o
  obtain ⟨wsb, hbb, _⟩ := L.dk.b
  obtain ⟨wsl, hbl, _⟩ := L.dk.l
  refine ⟨fun z => ?_, L.ne_l hbb, L.ne_l hbl⟩
  rw [z, hf] at hod
  injection hod with hod
  injection hod with _ _ hod
  have := congrArg (fun l : List (Str × V) => l.length) hod
  cases this
theorem Live.same (L : Live K ms H f d bl lg B Lg F) (s : Same H H') : Live K ms H' f d bl lg B Lg F := ⟨L.fa.same s, L.dk.same s, same_some s L.so, L.fm, L.bm, L.lm, L.gd⟩
theorem Live.sub (L : Live K ms H f d bl lg B Lg F) (s : ∀ a ∈ ns, a ∈ ms) (h1 : f ∈ ns) (h2 : bl ∈ ns) (h3 : lg ∈ ns) : Live K ns H f d bl lg B Lg F := ⟨L.fa.mono (av_sub s), L.dk, fun x hx => L.so x (s x hx), h1, h2, h3, L.gd⟩
theorem Live.add (L : Live K ms H f d bl lg B Lg F) (n : H g = none) (s : Same H H') (h : (H' g).isSome = true) : Live K (g :: ms) H' f d bl lg B Lg F := ⟨L.fa.add n s, L.dk.same s, fun x hx => by
  rcases List.mem_cons.mp hx with e | hx
  · rw [e]; exact h
  · exact same_some s L.so x hx, List.mem_cons_of_mem _ L.fm, List.mem_cons_of_mem _ L.bm, List.mem_cons_of_mem _ L.lm, L.gd⟩
/-- a thing of the asker's own changes -/
theorem Live.mut (L : Live K ms H f d bl lg B Lg F) (hg : g ∈ ms) (k : Keep [g] H H') (h : (H' g).isSome = true) (n1 : g ≠ f) (n2 : g ≠ d) (n3 : g ≠ bl) (n4 : g ≠ lg) : Live K ms H' f d bl lg B Lg F :=
  ⟨L.fa.keep k (fun a ha => by rw [List.mem_singleton.mp ha]; exact hg) (by rw [List.mem_singleton]; exact Ne.symm n1),
    L.dk.keep k (by rw [List.mem_singleton]; exact Ne.symm n2) (by rw [List.mem_singleton]; exact Ne.symm n3) (by rw [List.mem_singleton]; exact Ne.symm n4),
    keep_some k (fun x hx => by rw [List.mem_singleton.mp hx]; exact h) L.so, L.fm, L.bm, L.lm, L.gd⟩
/-- what was free then is none of these -/
theorem Live.ne4 (L : Live K ms H f d bl lg B Lg F) (n : H g = none) : g ≠ f ∧ g ≠ d ∧ g ≠ bl ∧ g ≠ lg := by
  have ne : ∀ {x o}, H x = Option.some o → g ≠ x := fun hx z => by rw [← z, n] at hx; cases hx
  obtain ⟨_, _, _, _, _, _, _, _, hf⟩ := L.ins
  obtain ⟨ex, hod⟩ := L.dk.o
  obtain ⟨wsb, hbb, _⟩ := L.dk.b
  obtain ⟨wsl, hbl, _⟩ := L.dk.l
  exact ⟨ne hf, ne hod, ne hbb, ne hbl⟩
/-- a list, a dict of one's own, new then, is made and changed at once -/
theorem Live.tmp (L : Live K ms H f d bl lg B Lg F) {H1 : Hp} (n : H g = none) (s : Same H H1) (k : Keep [g] H1 H') (h1 : (H1 g).isSome = true) (h : (H' g).isSome = true) : Live K ms H' f d bl lg B Lg F := by
  have ne : ∀ {x o}, H x = Option.some o → g ≠ x := fun hx z => by rw [← z, n] at hx; cases hx
  obtain ⟨_, _, _, _, _, _, _, _, hf⟩ := L.ins
  obtain ⟨ex, hod⟩ := L.dk.o
  obtain ⟨wsb, hbb, _⟩ := L.dk.b
  obtain ⟨wsl, hbl, _⟩ := L.dk.l
  exact ((L.add n s h1).mut List.mem_cons_self k h (ne hf) (ne hod) (ne hbb) (ne hbl)).sub (fun a ha => List.mem_cons_of_mem _ ha) L.fm L.bm L.lm
theorem Live.deed (L : Live K ms H f d bl lg B Lg F) (k : Keep [f] H H') (FA : FilesAt K ms H' f (.ref d) F') (g : Good F') : Live K ms H' f d bl lg B Lg F' := by
  obtain ⟨e1, e2, e3⟩ := L.df
  refine ⟨FA, L.dk.keep k (by rw [List.mem_singleton]; exact e1) (by rw [List.mem_singleton]; exact e2) (by rw [List.mem_singleton]; exact e3), keep_some k (fun x hx => by rw [List.mem_singleton.mp hx]; exact FA.some) L.so, L.fm, L.bm, L.lm, g⟩
theorem Live.deedC (L : Live K ms H f d bl lg B Lg F) (qe : ∀ x, D F B.length = .error x → ∀ H', Same H H' → Exn K E x H') (qo : ∀ r, D F B.length = .ok r → ∀ H', Keep [f] H H' → FilesAt K ms H' f (.ref d) (applyF F r.1) → Q (vAns r.2) H') : DeedC K f H Q E D :=
  .inr ⟨d, bl, lg, ms, F, B, Lg, L.fm, L.so, L.fa, L.dk, L.gd.w, L.gd.l, qe, qo⟩
theorem Live.askC (L : Live K ms H f d bl lg B Lg F) (qe : ∀ x, D F B.length = .error x → ∀ H', Same H H' → Q (.str x) H') (qo : ∀ r, D F B.length = .ok r → ∀ H', Keep [f] H H' → FilesAt K ms H' f (.ref d) (applyF F r.1) → Q (vAns r.2) H') : AskC K f H Q D :=
  .inr ⟨d, bl, lg, ms, F, B, Lg, L.fm, L.so, L.fa, L.dk, L.gd, qe, qo⟩
end
/-! ### a disk, formatted -/
theorem DiskAt.some {K : PySem.W.Frag} {H : Hp} {d bl lg : Addr} {B : List (Option (List Int))} {E : List Ent} (D : DiskAt K H d bl lg B E) : ∀ a ∈ [bl, lg], (H a).isSome = true := fun x hx => by
  obtain ⟨w1, y1, _⟩ := D.b
  obtain ⟨w2, y2, _⟩ := D.l
  rcases List.mem_cons.mp hx with e | hx
  · rw [e, y1]; rfl
  · rw [List.mem_singleton.mp hx, y2]; rfl
theorem x_Disk {K : PySem.W.Frag} {W : WX} {σ : L2.St} {H : Hp} {Q : VK} {c : Int} (h0 : 16 ≤ c) (h1 : c ≤ 256) (q : ∀ d bl lg H', H d = none → H bl = none → H lg = none → Same H H' → DiskAt K H' d bl lg (List.replicate c.toNat (some (List.replicate 64 0))) [] → Q (.ref d) H') : rNewI (He.ga K "Disk") (sp_Disk___init__ K) W σ [.int c] H Q := by
  refine x_make fun d dx H1 nd hd s1 => ?_
  refine ⟨d, dx, _, rfl, hd, ?_⟩
  rw [if_pos ⟨h0, h1⟩]
  intro bl lg H2 nb nl k1 D2
  exact ⟨rfl, q d bl lg H2 nd (s1.free nb) (s1.free nl) (keepNew (fun x hx => by rw [List.mem_singleton.mp hx]; exact nd) s1 k1) D2⟩
theorem x_fmt {K : PySem.W.Frag} {H : Hp} {Q : VK} {E : XK} {d bl lg : Addr} {B : List (Option (List Int))} {L : List Ent} (D : DiskAt K H d bl lg B L) (hB : 3 ≤ B.length) (hL : L.length ≤ 1000)
    (q : ∀ f H', H f = none → Keep [bl, lg] H H' → Live K [f, bl, lg] H' f d bl lg (fmtB B) (fmtL L) F0 → Q (.ref f) H') : sp_formatted K [.ref d] H Q E :=
  ⟨d, bl, lg, [bl, lg], B, L, rfl, D, hB, hL, by simp, by simp, D.some, fun f H' nf k D' FA => q f H' nf k ⟨FA, D', fun x hx => by
    rcases List.mem_cons.mp hx with e | hx
    · rw [e]; exact FA.some
    · exact D'.some x hx, by simp, by simp, by simp, good0⟩⟩
theorem fmtB_len (B : List (Option (List Int))) : (fmtB B).length = B.length := by
  unfold fmtB
  rw [List.length_set, List.length_set, setW_len]
theorem new2 {H : Hp} {a b : Addr} (h1 : H a = none) (h2 : H b = none) : ∀ x ∈ [a, b], H x = none := fun x hx => by
  rcases List.mem_cons.mp hx with e | hx
  · rw [e]; exact h1
  · rw [List.mem_singleton.mp hx]; exact h2
theorem new1 {H : Hp} {a : Addr} (h1 : H a = none) : ∀ x ∈ [a], H x = none := fun x hx => by rw [List.mem_singleton.mp hx]; exact h1
theorem notin1 {a b : Addr} (h : a ≠ b) : a ∉ [b] := by rw [List.mem_singleton]; exact h
end SP

set_option Elab.async false
set_option linter.all false
set_option maxRecDepth 100000
set_option maxHeartbeats 4000000
/-! The law of the bytes of files: the law. -/
namespace SP
open PySem PySem.Spec PyProof.Rows L2 L2H
local macro_rules | `(tactic| walk_at "hp") => `(tactic| first
  | assumption
  | exact upd_same
  | (refine' sameAt ?sA ?hA; (case sA => assumption); (case hA => walk_at "hp"))
  | (refine' Eq.trans (upd_ne ?nA) ?hA; (case nA => walk_at "ne"); (case hA => walk_at "hp")))
local macro_rules | `(tactic| walk_at "ne") => `(tactic| first
  | assumption
  | (refine' Ne.symm ?hA; assumption)
  | (refine' ne_of_none (H := _) ?hA (by assumption); walk_at "hp")
  | (refine' Ne.symm (ne_of_none (H := _) ?hA (by assumption)); walk_at "hp")
  | (refine' ne_of ?hA ?hB ?hC; (case hA => assumption); (case hB => walk_at "hp"); (case hC => (intro z; cases z))))
local macro_rules | `(tactic| walk_at "sm") => `(tactic| first
  | exact Same.refl _
  | assumption
  | (refine' sameTr ?sA ?sB; (case sA => assumption); (case sB => walk_at "sm")))
local macro_rules | `(tactic| walk_at "dm") => `(tactic| first
  | exact dmRefl
  | assumption
  | (refine' dmUpd ?dA; (case dA => walk_at "dm"))
  | (refine' dmSame ?sA ?dA; (case sA => assumption); (case dA => walk_at "dm")))
local macro_rules | `(tactic| walk_at "fr") => `(tactic| first
  | assumption
  | (refine' dmAt ?dA ?hA; (case hA => assumption); (case dA => walk_at "dm")))
local macro_rules | `(tactic| walk_at "ab") => `(tactic| (exfalso; refine absurd ?hA (noneSome ?hB); (case hB => walk_at "hp"); (case hA => assumption)))
local macro_rules | `(tactic| walk_at "kp") => `(tactic| first
  | exact Keep.refl
  | assumption
  | (refine' Keep.trans ?kA (keepUpd ?kB ?kC ?kD); (case kB => simp); (case kC => walk_at "hp"); (case kD => (intro xs z; cases z)); (case kA => walk_at "kp"))
  | (refine' keepTr ?kB ?kA; (case kB => assumption); (case kA => walk_at "kp"))
  | (refine' keepSm ?kB ?kA; (case kB => assumption); (case kA => walk_at "kp")))
local macro_rules | `(tactic| walk_at "get") => `(tactic| first
  | (refine' x_get_Files_state ?T ?h ?_) | (refine' x_get_Thing_kind ?T ?h ?_) | (refine' x_get_Thing_entries ?T ?h ?_) | (refine' x_get_Thing_held ?T ?h ?_)
  | (refine' x_get_Files_disk ?T ?h ?_) | (refine' x_get_Files_kept ?T ?h ?_) | (refine' x_get_Files_used ?T ?h ?_)
  | (refine' x_get_Disk_blocks ?T ?h ?_) | (refine' x_get_Disk_log ?T ?h ?_)
  | (refine' x_get_Reader_row ?T ?h ?_) | (refine' x_get_Reader_at ?T ?h ?_) | (refine' x_get_Reader_good ?T ?h ?_)
  | (refine' x_get_Files_slot ?T ?h ?_) | (refine' x_get_Files_turn ?T ?h ?_) | (refine' x_get_Files_is_new ?T ?h ?_))
local macro_rules | `(tactic| walk_at "set") => `(tactic| first
  | ((with_reducible refine' x_set_Disk_blocks ?T ?h ?_); (case T => assumption); (case h => walk_at "hp"))
  | ((with_reducible refine' i_set_Disk_blocks ?T ?h ?_); (case T => assumption); (case h => walk_at "hp"))
  | ((with_reducible refine' x_set_Disk_log ?T ?h ?_); (case T => assumption); (case h => walk_at "hp"))
  | ((with_reducible refine' i_set_Disk_log ?T ?h ?_); (case T => assumption); (case h => walk_at "hp"))
  | ((with_reducible refine' x_set_Thing_kind ?T ?h ?_); (case T => assumption); (case h => walk_at "hp"))
  | ((with_reducible refine' i_set_Thing_kind ?T ?h ?_); (case T => assumption); (case h => walk_at "hp"))
  | ((with_reducible refine' x_set_Thing_held ?T ?h ?_); (case T => assumption); (case h => walk_at "hp"))
  | ((with_reducible refine' i_set_Thing_held ?T ?h ?_); (case T => assumption); (case h => walk_at "hp"))
  | ((with_reducible refine' x_set_Thing_entries ?T ?h ?_); (case T => assumption); (case h => walk_at "hp"))
  | ((with_reducible refine' i_set_Thing_entries ?T ?h ?_); (case T => assumption); (case h => walk_at "hp"))
  | ((with_reducible refine' x_set_Reader_row ?T ?h ?_); (case T => assumption); (case h => walk_at "hp"))
  | ((with_reducible refine' i_set_Reader_row ?T ?h ?_); (case T => assumption); (case h => walk_at "hp"))
  | ((with_reducible refine' x_set_Reader_at ?T ?h ?_); (case T => assumption); (case h => walk_at "hp"))
  | ((with_reducible refine' i_set_Reader_at ?T ?h ?_); (case T => assumption); (case h => walk_at "hp"))
  | ((with_reducible refine' x_set_Reader_good ?T ?h ?_); (case T => assumption); (case h => walk_at "hp"))
  | ((with_reducible refine' i_set_Reader_good ?T ?h ?_); (case T => assumption); (case h => walk_at "hp"))
  | ((with_reducible refine' x_set_Files_disk ?T ?h ?_); (case T => assumption); (case h => walk_at "hp"))
  | ((with_reducible refine' i_set_Files_disk ?T ?h ?_); (case T => assumption); (case h => walk_at "hp"))
  | ((with_reducible refine' x_set_Files_state ?T ?h ?_); (case T => assumption); (case h => walk_at "hp"))
  | ((with_reducible refine' i_set_Files_state ?T ?h ?_); (case T => assumption); (case h => walk_at "hp"))
  | ((with_reducible refine' x_set_Files_kept ?T ?h ?_); (case T => assumption); (case h => walk_at "hp"))
  | ((with_reducible refine' i_set_Files_kept ?T ?h ?_); (case T => assumption); (case h => walk_at "hp"))
  | ((with_reducible refine' x_set_Files_slot ?T ?h ?_); (case T => assumption); (case h => walk_at "hp"))
  | ((with_reducible refine' i_set_Files_slot ?T ?h ?_); (case T => assumption); (case h => walk_at "hp"))
  | ((with_reducible refine' x_set_Files_turn ?T ?h ?_); (case T => assumption); (case h => walk_at "hp"))
  | ((with_reducible refine' i_set_Files_turn ?T ?h ?_); (case T => assumption); (case h => walk_at "hp"))
  | ((with_reducible refine' x_set_Files_used ?T ?h ?_); (case T => assumption); (case h => walk_at "hp"))
  | ((with_reducible refine' i_set_Files_used ?T ?h ?_); (case T => assumption); (case h => walk_at "hp"))
  | ((with_reducible refine' x_set_Files_is_new ?T ?h ?_); (case T => assumption); (case h => walk_at "hp"))
  | ((with_reducible refine' i_set_Files_is_new ?T ?h ?_); (case T => assumption); (case h => walk_at "hp")))
local macro_rules | `(tactic| walk_at "go1") => `(tactic| first
  | ((with_reducible refine w_var (v := ?vv) ?e ?_); (case e => rfl))
  | ((with_reducible walk_at "get"); (case T => assumption); (case h => walk_at "hp"))
  | (with_reducible refine x_bl ?_)
  | (with_reducible refine x_isN ?_) | (with_reducible refine x_notN ?_) | (with_reducible refine x_eqI ?_) | (with_reducible refine x_neI ?_) | (with_reducible refine x_eqS ?_) | (with_reducible refine x_neS ?_)
  | (with_reducible refine x_addI ?_) | (with_reducible refine x_subI ?_) | (with_reducible refine x_ltI ?_) | (with_reducible refine x_leI ?_) | (with_reducible refine x_gtI ?_) | (with_reducible refine x_geI ?_)
  | (with_reducible refine x_bv ?_) | (with_reducible refine x_part ?_) | (with_reducible refine x_neg ?_) | (with_reducible refine x_inS ?_)
  | (walk_at "set")
  | ((with_reducible refine' x_bmL ?h ?_); (case h => walk_at "hp")) | ((with_reducible refine' x_bmL0 ?h ?_); (case h => walk_at "hp")))
local macro_rules | `(tactic| walk_at "go") => `(tactic| ((try with_reducible (conv => whnf)); repeat ((walk_at "go1"); (try with_reducible (conv => whnf)))))
def kg (g : Int → List Int) : St := [(0, ⟨true, [], [("x", 1), ("y", 2), ("z", 1)]⟩), (1, ⟨false, g 1, []⟩), (2, ⟨false, g 2, []⟩)]
def updF (g : Int → List Int) (n : Int) (l : List Int) : Int → List Int := fun m => if m = n then l else g m
def kF (g : Int → List Int) (new : Bool) : Fs := ⟨kg g, [], 0, 1, [2], new⟩
theorem two {n : Int} (h0 : 1 ≤ n) (h1 : n ≤ 2) : n = 1 ∨ n = 2 := by omega
theorem kg_file {g : Int → List Int} {n : Int} (h0 : 1 ≤ n) (h1 : n ≤ 2) : lk (kg g) n = some ⟨false, g n, []⟩ := by
  rcases two h0 h1 with rfl | rfl <;> rfl
theorem kg_at {g : Int → List Int} {n : Int} (h0 : 1 ≤ n) (h1 : n ≤ 2) : fileAt (kg g) n = .ok ⟨false, g n, []⟩ := by
  unfold fileAt
  rw [kg_file h0 h1]
  rfl
theorem kg_held {g : Int → List Int} {n : Int} {l : List Int} (h0 : 1 ≤ n) (h1 : n ≤ 2) : heldS (kg g) n l = kg (updF g n l) := by
  rcases two h0 h1 with rfl | rfl <;> rfl
theorem kg_links {g : Int → List Int} {n : Int} (h0 : 1 ≤ n) (h1 : n ≤ 2) : linksF (kg g) n = 3 - n := by
  rcases two h0 h1 with rfl | rfl <;> rfl
theorem kg_find (g : Int → List Int) : findF (kg g) "/z" = .ok 1 := by
  unfold findF
  rw [show partsOf "/z" = some [("z" : Str)] from by decide +kernel]
  rfl
theorem kg_room {g : Int → List Int} (w1 : (g 1).length ≤ 600) (w2 : (g 2).length ≤ 600) : room (szI (kg g) []) [2] 256 = true := by
  refine decide_eq_true ?_
  have e : szI (kg g) [] = 22 + (g 1).length + (g 2).length := by
    show 1 + (1 + (12 + ((4 + (g 1).length) + ((4 + (g 2).length) + 0)))) + 0 = _
    omega
  rw [e]
  unfold manyBlocks
  show _ + (1 : Int) + 2 ≤ 256
  omega
theorem kg_len {g : Int → List Int} {new : Bool} (G : Good (kF g new)) {n : Int} (h0 : 1 ≤ n) (h1 : n ≤ 2) : (g n).length ≤ 600 := (G.w.ok (kg_file h0 h1)).hl
theorem kg_become {g : Int → List Int} {new : Bool} {a : Option Int} {g' : Int → List Int} (w1 : (g' 1).length ≤ 600) (w2 : (g' 2).length ≤ 600) : become (kF g new) 256 (kg g') [] a = .ok (some (kg g', []), a) := by
  unfold become
  rw [if_pos]
  refine (roomOk_iff ?_ wn0).mpr (kg_room w1 w2)
  refine ⟨by show ([0, 1, 2] : List Int).Nodup; decide, by show 3 ≤ 50; decide, fun x hx => ?_⟩
  have hx : x = (0, ⟨true, [], [("x", 1), ("y", 2), ("z", 1)]⟩) ∨ x = (1, ⟨false, g' 1, []⟩) ∨ x = (2, ⟨false, g' 2, []⟩) := by
    simpa [kg] using hx
  rcases hx with h | h | h
  · rw [h]; exact ⟨by decide, by decide, by decide, by decide +kernel⟩
  · rw [h]; exact ⟨List.nodup_nil, Nat.zero_le _, by show (g' 1).length ≤ 1000; omega, fun _ h => (nomatch h)⟩
  · rw [h]; exact ⟨List.nodup_nil, Nat.zero_le _, by show (g' 2).length ≤ 1000; omega, fun _ h => (nomatch h)⟩
def onN (n : Int) : Deed → Prop
  | .write m _ _ => m = n
  | .cut m _ => m = n
  | _ => False
theorem updF_self {g : Int → List Int} {n : Int} : updF g n (g n) = g := by
  funext m
  unfold updF
  split
  · rename_i h; rw [h]
  · rfl
/-- what a deed answers is what the law's own list says -/
theorem chg_write {held row : List Int} {n s : Int} : chg held (.write n s row) = if 600 < s + (row.length : Int) then (.str "TooGreat", held) else if row = [] then (.int 0, held) else (.int (row.length : Int), wrL held s row) := rfl
theorem chg_cut {held : List Int} {n s : Int} : chg held (.cut n s) = if 600 < s then (.str "TooGreat", held) else (.non, ctL held s) := rfl
theorem kg_deed {g : Int → List Int} {new : Bool} (G : Good (kF g new)) {n : Int} (h0 : 1 ≤ n) (h1 : n ≤ 2) {D : Deed} (ok : OkD D) (on : onN n D) :
    (∃ x, deedD D (kF g new) 256 = .error x ∧ (chg (g n) D).1 = .str x ∧ updF g n (chg (g n) D).2 = g ∧ PyData.strOk x = true) ∨ ∃ r new', deedD D (kF g new) 256 = .ok r ∧ vAns r.2 = (chg (g n) D).1 ∧ applyF (kF g new) r.1 = kF (updF g n (chg (g n) D).2) new' := by
  have l1 := kg_len G (n := 1) (by decide) (by decide)
  have l2 := kg_len G (n := 2) (by decide) (by decide)
  have ln := kg_len G h0 h1
  have lup : ∀ l : List Int, l.length ≤ 600 → (updF g n l 1).length ≤ 600 ∧ (updF g n l 2).length ≤ 600 := fun l hl => by
    unfold updF
    exact ⟨by split <;> assumption, by split <;> assumption⟩
  cases D with
  | write m s row =>
    have on : m = n := on
    subst on
    obtain ⟨o1, o2, o3⟩ := ok
    have e : deedD (.write m s row) (kF g new) 256 = if 600 < s + (row.length : Int) then .error "TooGreat" else if row = [] then .ok (none, some 0) else become (kF g new) 256 (heldS (kg g) m (wrL (g m) s row)) [] (some (row.length : Int)) := by
      show writeD (kF g new) 256 m s row = _
      unfold writeD
      show (match fileAt (kg g) m with | .error x => _ | .ok t => _) = _
      rw [kg_at h0 h1]
      rfl
    by_cases c : 600 < s + (row.length : Int)
    · refine .inl ⟨"TooGreat", by rw [e, if_pos c], by rw [chg_write, if_pos c], by rw [chg_write, if_pos c]; exact updF_self, by decide +kernel⟩
    by_cases c0 : row = []
    · refine .inr ⟨_, new, by rw [e, if_neg c, if_pos c0], by rw [chg_write, if_neg c, if_pos c0]; rfl, ?_⟩
      rw [chg_write, if_neg c, if_pos c0, updF_self]
      rfl
    · have hl : (wrL (g m) s row).length ≤ 600 := by
        unfold wrL
        rw [List.length_append, List.length_append, List.length_take, List.length_drop, List.length_append, List.length_replicate]
        omega
      obtain ⟨u1, u2⟩ := lup _ hl
      refine .inr ⟨_, true, by rw [e, if_neg c, if_neg c0, kg_held h0 h1, kg_become u1 u2], by rw [chg_write, if_neg c, if_neg c0]; rfl, ?_⟩
      rw [chg_write, if_neg c, if_neg c0]
      rfl
  | cut m s =>
    have on : m = n := on
    subst on
    have ok : 0 ≤ s := ok
    have e : deedD (.cut m s) (kF g new) 256 = if 600 < s then .error "TooGreat" else become (kF g new) 256 (heldS (kg g) m (ctL (g m) s)) [] none := by
      show cutD (kF g new) 256 m s = _
      unfold cutD
      show (match fileAt (kg g) m with | .error x => _ | .ok t => _) = _
      rw [kg_at h0 h1]
      rfl
    by_cases c : 600 < s
    · refine .inl ⟨"TooGreat", by rw [e, if_pos c], by rw [chg_cut, if_pos c], by rw [chg_cut, if_pos c]; exact updF_self, by decide +kernel⟩
    · have hl : (ctL (g m) s).length ≤ 600 := by
        unfold ctL
        rw [List.length_append, List.length_take, List.length_replicate]
        omega
      obtain ⟨u1, u2⟩ := lup _ hl
      refine .inr ⟨_, true, by rw [e, if_neg c, kg_held h0 h1, kg_become u1 u2], by rw [chg_cut, if_neg c]; rfl, ?_⟩
      rw [chg_cut, if_neg c]
      rfl
  | make p b => exact on.elim
  | link p q => exact on.elim
  | unlink p => exact on.elim
  | rename p q => exact on.elim
  | snap z => exact on.elim
  | unsnap z => exact on.elim
/-- flat values as data -/
def dV : V → PyData
  | .int i => .int i
  | .str x => .str x
  | _ => .none
def flat3 : V → Prop
  | .int _ => True
  | .str x => PyData.strOk x = true
  | .non => True
  | _ => False
theorem dp_V {K : PySem.W.Frag} {H : Hp} : ∀ {v : V}, flat3 v → Dp K H v (dV v) ∧ Shp 0 (dV v)
  | .int i, _ => ⟨.int i, Shp.int i⟩
  | .str x, h => ⟨.str x, Shp.str h⟩
  | .non, _ => ⟨.non, Shp.none⟩
theorem chg_flat {held : List Int} {D : Deed} : flat3 (chg held D).1 := by
  unfold chg
  split
  · split
    · show PyData.strOk _ = true; decide +kernel
    · split <;> trivial
  · split
    · show PyData.strOk _ = true; decide +kernel
    · trivial
  · trivial
/-- the law's own lists -/
def HeldAt (H : Hp) (hd : Addr) (g : Int → List Int) : Prop := ∃ a1 a2, H hd = some (.dK [(Sum.inl 1, .ref a1), (Sum.inl 2, .ref a2)]) ∧ H a1 = some (.lst ((g 1).map V.int)) ∧ H a2 = some (.lst ((g 2).map V.int))
theorem HeldAt.keep {H H' : Hp} {hd : Addr} {g : Int → List Int} {ms : List Addr} (h : HeldAt H hd g) (k : Keep ms H H') (n1 : ∀ a ∈ ms, ∀ kvs, H a ≠ some (.dK kvs)) (n2 : ∀ a ∈ ms, ∀ xs, H a = some (.lst xs) → H' a = some (.lst xs)) : HeldAt H' hd g := by
  obtain ⟨a1, a2, e, e1, e2⟩ := h
  have st : ∀ {a xs}, H a = some (.lst xs) → H' a = some (.lst xs) := fun {a} {xs} h => by
    by_cases c : a ∈ ms
    · exact n2 a c xs h
    · exact k.k _ _ c h
  exact ⟨a1, a2, k.k _ _ (fun z => n1 _ z _ e) e, st e1, st e2⟩
theorem HeldAt.same {H H' : Hp} {hd : Addr} {g : Int → List Int} (h : HeldAt H hd g) (s : Same H H') : HeldAt H' hd g := by
  obtain ⟨a1, a2, e, e1, e2⟩ := h
  exact ⟨a1, a2, s _ _ e, s _ _ e1, s _ _ e2⟩
theorem HeldAt.get {H : Hp} {hd : Addr} {g : Int → List Int} (h : HeldAt H hd g) {n : Int} (h0 : 1 ≤ n) (h1 : n ≤ 2) : ∃ kvs a, H hd = some (.dK kvs) ∧ kvs.length ≤ 2 ∧ valV kvs (Sum.inl n) = some (.ref a) ∧ H a = some (.lst ((g n).map V.int)) ∧
    ∀ b H' l, H' hd = some (.dK (putK kvs (Sum.inl n) (.ref b))) → (∀ c xs, H c = some (.lst xs) → H' c = some (.lst xs)) → H' b = some (.lst (l.map V.int)) → HeldAt H' hd (updF g n l) := by
  obtain ⟨a1, a2, e, e1, e2⟩ := h
  rcases two h0 h1 with rfl | rfl
  · exact ⟨_, a1, e, Nat.le_refl _, rfl, e1, fun b H' l f1 f2 f3 => ⟨b, a2, f1, f3, f2 _ _ e2⟩⟩
  · exact ⟨_, a2, e, Nat.le_refl _, rfl, e2, fun b H' l f1 f2 f3 => ⟨a1, b, f1, f2 _ _ e1, f3⟩⟩
def sp_law (K : PySem.W.Frag) : Sp := fun vs H Q E => ∃ (a : Addr) (ns : List Int), vs = [.ref a] ∧ SqL K H a (ns.map V.int) ∧ ns.length ≤ 63 ∧ ∀ H', Q (.bl true) H'
def t_law (K : PySem.W.Frag) (W : WX) : TS := uSeq (uAsg (uCallW (sp_formatted K) W (uCons (uMakeW (He.ga K "Disk") (sp_Disk___init__ K) W (uCons (uC (.int 256)) uNil)) uNil)) (vName 1))
    (uSeq (uIfS (uNot (uTest (uCB (rIsC (He.ga K "Files")) (uCons (tVar 1) (uCons (uC (.ref (He.ga K "Files"))) uNil))))) (uRet (uC (.bl false))) uNext)
    (uSeq (uAsg (tDisp [(uMethW (He.ga K "Files") "make" (sp_Files_make K) W (tVar 1) (uCons (uC (.str "/x")) (uCons (uC (.str "file")) uNil)), uLst uNil), (uMethW (He.ga K "Files") "make" (sp_Files_make K) W (tVar 1) (uCons (uC (.str "/y")) (uCons (uC (.str "file")) uNil)), uLst uNil)]) (vName 2))
    (uSeq (uDrop (uMethW (He.ga K "Files") "link" (sp_Files_link K) W (tVar 1) (uCons (uC (.str "/x")) (uCons (uC (.str "/z")) uNil))))
    (uSeq (uFor (jRng1 (uCons (uCB cMax2 (uCons (uC (.int 1)) (uCons (uCB cMin2 (uCons (uC (.int 20)) (uCons (uCB (cLenQ K) (uCons (tVar 0) uNil)) uNil))) uNil))) uNil)) (vName 3) (uSeq (uAsg (uCallW (sp__law_cell K) W (uCons (tVar 0) (uCons (tVar 3) uNil))) (vName 4))
    (uSeq (uAsg (uCallW (sp__law_drawn K) W (uCons (tVar 4) (uCons (tVar 3) uNil))) (vName 5))
    (uSeq (uAsg (uOp rAddI (uC (.int 1)) (uOp rModI (tVar 5) (uC (.int 2)))) (vName 6))
    (uSeq (uAsg (uCallW (sp__law_deed K) W (uCons (tVar 4) (uCons (uOp rDivI (tVar 5) (uC (.int 2))) (uCons (tVar 6) (uCons (uCB (cLenQ K) (uCons (uDGet (tVar 2) (tVar 6)) uNil)) uNil))))) (vName 7))
    (uSeq (uAsg (uIf (uTest (uOp rEq (uOp (rIxT K) (tVar 7) (uC (.int 0))) (uC (.str "write")))) (uCB (cList K) (uCons (uOp (rIxT K) (tVar 7) (uUn rNegI (uC (.int 1)))) uNil)) (uLst uNil)) (vName 8))
    (uSeq (uAsg (uCallW (sp__law_changed K) W (uCons (uDGet (tVar 2) (tVar 6)) (uCons (tVar 7) uNil))) (gTup K 2 (gCons (vName 12) (gCons (vName 13) gNil))))
    (uSeq (uIfS (uOr (uTest (uOp (rNeD K) (uCallW (sp__law_told K) W (uCons (tVar 1) (uCons (tVar 7) uNil))) (tVar 12))) (uAnd (uTest (uOp rEq (uOp (rIxT K) (tVar 7) (uC (.int 0))) (uC (.str "write")))) (uTest (uOp (rNeD K) (uOp (rIxT K) (tVar 7) (uC (.int 3))) (tVar 8))))) (uRet (uC (.bl false))) uNext)
    (uSeq (uDPut (tVar 2) (tVar 6) (tVar 13))
    (uSeq (uAsg (uOp rModI (uOp rDivI (tVar 5) (uC (.int 64))) (uC (.int 700))) (vName 9))
    (uSeq (uAsg (uOp rModI (uOp rDivI (tVar 5) (uC (.int 4096))) (uC (.int 700))) (vName 10))
    (uSeq (uAsg (uMethW (He.ga K "Files") "read" (sp_Files_read K) W (tVar 1) (uCons (tVar 6) (uCons (tVar 9) (uCons (tVar 10) uNil)))) (vName 11))
    (uSeq (uIfS (uOr (uTest (uOp (rNeD K) (tVar 11) (uSl (rSlL K) (tVar 13) (uPart (tVar 9)) (uPart (uOp rAddI (tVar 9) (tVar 10)))))) (uTest (uOp (rNeD K) (uMethW (He.ga K "Files") "read" (sp_Files_read K) W (tVar 1) (uCons (tVar 6) (uCons (uC (.int 0)) (uCons (uOp rShl (uC (.int 1)) (uC (.int 39))) uNil)))) (tVar 13)))) (uRet (uC (.bl false))) uNext)
    (uSeq (uDrop (uBM K "list" rAppend (tVar 11) (uCons (uC (.int 0)) uNil)))
    (uSeq (uIfS (uAnd (uTest (uOp rEq (uOp (rIxT K) (tVar 7) (uC (.int 0))) (uC (.str "write")))) (uTest (uOp (rNeD K) (uOp (rIxT K) (tVar 7) (uC (.int 3))) (uLst uNil)))) (uAsg (uOp rSubI (uC (.int 255)) (uOp (rIxL K) (uOp (rIxT K) (tVar 7) (uC (.int 3))) (uC (.int 0)))) (vSub (uOp (rIxT K) (tVar 7) (uC (.int 3))) (uC (.int 0)) rSetL)) uNext)
    (uSeq (uIfS (uTest (uOp (rNeD K) (uMethW (He.ga K "Files") "read" (sp_Files_read K) W (tVar 1) (uCons (tVar 6) (uCons (tVar 9) (uCons (tVar 10) uNil)))) (uSl (rSlL K) (tVar 13) (uPart (tVar 9)) (uPart (uOp rAddI (tVar 9) (tVar 10)))))) (uRet (uC (.bl false))) uNext)
    (uIfS (uOr (uTest (uOp (rNeD K) (uMethW (He.ga K "Files") "stat" (sp_Files_stat K) W (tVar 1) (uCons (tVar 6) uNil)) (uTup (uCons (uC (.str "file")) (uCons (uOp rSubI (uC (.int 3)) (tVar 6)) (uCons (uCB (cLenQ K) (uCons (tVar 13) uNil)) uNil)))))) (uTest (uOp rNe (uMethW (He.ga K "Files") "find" (sp_Files_find K) W (tVar 1) (uCons (uC (.str "/z")) uNil)) (uC (.int 1))))) (uRet (uC (.bl false))) uNext)))))))))))))))))
    (uRet (uC (.bl true)))))))
def A1 : St := [(0, ⟨true, [], [("x", 1)]⟩), (1, ⟨false, [], []⟩)]
def A2 : St := [(0, ⟨true, [], [("x", 1), ("y", 2)]⟩), (1, ⟨false, [], []⟩), (2, ⟨false, [], []⟩)]
theorem step1 : makeD F0 256 "/x" false = .ok (some (A1, []), some 1) :=
  makeD_ok (n := 1) (pl := 0) (ns := ["x"]) (by decide +kernel) (isOk_ok (by decide +kernel)) (by decide +kernel) (by decide +kernel) (by decide) (by decide +kernel) (wgB_ok (S := A1) (by decide +kernel)).ws wn0 (by decide +kernel)
theorem step2 : makeD ⟨A1, [], 0, 1, [2], true⟩ 256 "/y" false = .ok (some (A2, []), some 2) :=
  makeD_ok (n := 2) (pl := 0) (ns := ["y"]) (by decide +kernel) (isOk_ok (by decide +kernel)) (by decide +kernel) (by decide +kernel) (by decide) (by decide +kernel) (wgB_ok (S := A2) (by decide +kernel)).ws wn0 (by decide +kernel)
theorem step3 : linkD ⟨A2, [], 0, 1, [2], true⟩ 256 "/x" "/z" = .ok (some (kg (fun _ => []), []), none) :=
  linkD_ok (n := 1) (pl := 0) (ns := ["x"]) (os := ["z"]) (by decide +kernel) (by decide +kernel) (isOk_ok (by decide +kernel)) (by decide +kernel) (isOk_ok (by decide +kernel)) (by decide +kernel) (by decide +kernel) (wgB_ok (S := kg (fun _ => [])) (by decide +kernel)).ws wn0 (by decide +kernel)
end SP

set_option Elab.async false
set_option linter.all false
set_option maxRecDepth 100000
set_option maxHeartbeats 4000000
namespace SP
open PySem PySem.Spec PyProof.Rows L2 L2H
local macro_rules | `(tactic| walk_at "hp") => `(tactic| first
  | assumption
  | exact upd_same
  | (refine' sameAt ?sA ?hA; (case sA => assumption); (case hA => walk_at "hp"))
  | (refine' Eq.trans (upd_ne ?nA) ?hA; (case nA => walk_at "ne"); (case hA => walk_at "hp")))
local macro_rules | `(tactic| walk_at "ne") => `(tactic| first
  | assumption
  | (refine' Ne.symm ?hA; assumption)
  | (refine' ne_of_none (H := _) ?hA (by assumption); walk_at "hp")
  | (refine' Ne.symm (ne_of_none (H := _) ?hA (by assumption)); walk_at "hp")
  | (refine' ne_of ?hA ?hB ?hC; (case hA => assumption); (case hB => walk_at "hp"); (case hC => (intro z; cases z))))
local macro_rules | `(tactic| walk_at "sm") => `(tactic| first
  | exact Same.refl _
  | assumption
  | (refine' sameTr ?sA ?sB; (case sA => assumption); (case sB => walk_at "sm")))
local macro_rules | `(tactic| walk_at "dm") => `(tactic| first
  | exact dmRefl
  | assumption
  | (refine' dmUpd ?dA; (case dA => walk_at "dm"))
  | (refine' dmSame ?sA ?dA; (case sA => assumption); (case dA => walk_at "dm")))
local macro_rules | `(tactic| walk_at "fr") => `(tactic| first
  | assumption
  | (refine' dmAt ?dA ?hA; (case hA => assumption); (case dA => walk_at "dm")))
local macro_rules | `(tactic| walk_at "ab") => `(tactic| (exfalso; refine absurd ?hA (noneSome ?hB); (case hB => walk_at "hp"); (case hA => assumption)))
local macro_rules | `(tactic| walk_at "kp") => `(tactic| first
  | exact Keep.refl
  | assumption
  | (refine' Keep.trans ?kA (keepUpd ?kB ?kC ?kD); (case kB => simp); (case kC => walk_at "hp"); (case kD => (intro xs z; cases z)); (case kA => walk_at "kp"))
  | (refine' keepTr ?kB ?kA; (case kB => assumption); (case kA => walk_at "kp"))
  | (refine' keepSm ?kB ?kA; (case kB => assumption); (case kA => walk_at "kp")))
local macro_rules | `(tactic| walk_at "get") => `(tactic| first
  | (refine' x_get_Files_state ?T ?h ?_) | (refine' x_get_Thing_kind ?T ?h ?_) | (refine' x_get_Thing_entries ?T ?h ?_) | (refine' x_get_Thing_held ?T ?h ?_)
  | (refine' x_get_Files_disk ?T ?h ?_) | (refine' x_get_Files_kept ?T ?h ?_) | (refine' x_get_Files_used ?T ?h ?_)
  | (refine' x_get_Disk_blocks ?T ?h ?_) | (refine' x_get_Disk_log ?T ?h ?_)
  | (refine' x_get_Reader_row ?T ?h ?_) | (refine' x_get_Reader_at ?T ?h ?_) | (refine' x_get_Reader_good ?T ?h ?_)
  | (refine' x_get_Files_slot ?T ?h ?_) | (refine' x_get_Files_turn ?T ?h ?_) | (refine' x_get_Files_is_new ?T ?h ?_))
local macro_rules | `(tactic| walk_at "set") => `(tactic| first
  | ((with_reducible refine' x_set_Disk_blocks ?T ?h ?_); (case T => assumption); (case h => walk_at "hp"))
  | ((with_reducible refine' i_set_Disk_blocks ?T ?h ?_); (case T => assumption); (case h => walk_at "hp"))
  | ((with_reducible refine' x_set_Disk_log ?T ?h ?_); (case T => assumption); (case h => walk_at "hp"))
  | ((with_reducible refine' i_set_Disk_log ?T ?h ?_); (case T => assumption); (case h => walk_at "hp"))
  | ((with_reducible refine' x_set_Thing_kind ?T ?h ?_); (case T => assumption); (case h => walk_at "hp"))
  | ((with_reducible refine' i_set_Thing_kind ?T ?h ?_); (case T => assumption); (case h => walk_at "hp"))
  | ((with_reducible refine' x_set_Thing_held ?T ?h ?_); (case T => assumption); (case h => walk_at "hp"))
  | ((with_reducible refine' i_set_Thing_held ?T ?h ?_); (case T => assumption); (case h => walk_at "hp"))
  | ((with_reducible refine' x_set_Thing_entries ?T ?h ?_); (case T => assumption); (case h => walk_at "hp"))
  | ((with_reducible refine' i_set_Thing_entries ?T ?h ?_); (case T => assumption); (case h => walk_at "hp"))
  | ((with_reducible refine' x_set_Reader_row ?T ?h ?_); (case T => assumption); (case h => walk_at "hp"))
  | ((with_reducible refine' i_set_Reader_row ?T ?h ?_); (case T => assumption); (case h => walk_at "hp"))
  | ((with_reducible refine' x_set_Reader_at ?T ?h ?_); (case T => assumption); (case h => walk_at "hp"))
  | ((with_reducible refine' i_set_Reader_at ?T ?h ?_); (case T => assumption); (case h => walk_at "hp"))
  | ((with_reducible refine' x_set_Reader_good ?T ?h ?_); (case T => assumption); (case h => walk_at "hp"))
  | ((with_reducible refine' i_set_Reader_good ?T ?h ?_); (case T => assumption); (case h => walk_at "hp"))
  | ((with_reducible refine' x_set_Files_disk ?T ?h ?_); (case T => assumption); (case h => walk_at "hp"))
  | ((with_reducible refine' i_set_Files_disk ?T ?h ?_); (case T => assumption); (case h => walk_at "hp"))
  | ((with_reducible refine' x_set_Files_state ?T ?h ?_); (case T => assumption); (case h => walk_at "hp"))
  | ((with_reducible refine' i_set_Files_state ?T ?h ?_); (case T => assumption); (case h => walk_at "hp"))
  | ((with_reducible refine' x_set_Files_kept ?T ?h ?_); (case T => assumption); (case h => walk_at "hp"))
  | ((with_reducible refine' i_set_Files_kept ?T ?h ?_); (case T => assumption); (case h => walk_at "hp"))
  | ((with_reducible refine' x_set_Files_slot ?T ?h ?_); (case T => assumption); (case h => walk_at "hp"))
  | ((with_reducible refine' i_set_Files_slot ?T ?h ?_); (case T => assumption); (case h => walk_at "hp"))
  | ((with_reducible refine' x_set_Files_turn ?T ?h ?_); (case T => assumption); (case h => walk_at "hp"))
  | ((with_reducible refine' i_set_Files_turn ?T ?h ?_); (case T => assumption); (case h => walk_at "hp"))
  | ((with_reducible refine' x_set_Files_used ?T ?h ?_); (case T => assumption); (case h => walk_at "hp"))
  | ((with_reducible refine' i_set_Files_used ?T ?h ?_); (case T => assumption); (case h => walk_at "hp"))
  | ((with_reducible refine' x_set_Files_is_new ?T ?h ?_); (case T => assumption); (case h => walk_at "hp"))
  | ((with_reducible refine' i_set_Files_is_new ?T ?h ?_); (case T => assumption); (case h => walk_at "hp")))
local macro_rules | `(tactic| walk_at "go1") => `(tactic| first
  | ((with_reducible refine w_var (v := ?vv) ?e ?_); (case e => rfl))
  | ((with_reducible walk_at "get"); (case T => assumption); (case h => walk_at "hp"))
  | (with_reducible refine x_bl ?_)
  | (with_reducible refine x_isN ?_) | (with_reducible refine x_notN ?_) | (with_reducible refine x_eqI ?_) | (with_reducible refine x_neI ?_) | (with_reducible refine x_eqS ?_) | (with_reducible refine x_neS ?_)
  | (with_reducible refine x_addI ?_) | (with_reducible refine x_subI ?_) | (with_reducible refine x_ltI ?_) | (with_reducible refine x_leI ?_) | (with_reducible refine x_gtI ?_) | (with_reducible refine x_geI ?_)
  | (with_reducible refine x_bv ?_) | (with_reducible refine x_part ?_) | (with_reducible refine x_neg ?_) | (with_reducible refine x_inS ?_)
  | (walk_at "set")
  | ((with_reducible refine' x_bmL ?h ?_); (case h => walk_at "hp")) | ((with_reducible refine' x_bmL0 ?h ?_); (case h => walk_at "hp")))
local macro_rules | `(tactic| walk_at "go") => `(tactic| ((try with_reducible (conv => whnf)); repeat ((walk_at "go1"); (try with_reducible (conv => whnf)))))
/-- a deed of this law, its row one of R -/
def DeedN (R : List Addr) (H : Hp) (n : Int) (v : V) (D : Deed) : Prop := (∃ t r st row, D = .write n st row ∧ v = .ref t ∧ r ∈ R ∧ H t = some (.tup [.str "write", .int n, .int st, .ref r]) ∧ H r = some (.lst (row.map V.int))) ∨ ∃ t sz, D = .cut n sz ∧ v = .ref t ∧ H t = some (.tup [.str "cut", .int n, .int sz])
theorem DeedN.same {R : List Addr} {H H' : Hp} {n : Int} {v : V} {D : Deed} (h : DeedN R H n v D) (s : Same H H') : DeedN R H' n v D := by
  rcases h with ⟨t, r, st, row, e1, e2, e3, e4, e5⟩ | ⟨t, sz, e1, e2, e3⟩
  · exact .inl ⟨t, r, st, row, e1, e2, e3, s _ _ e4, s _ _ e5⟩
  · exact .inr ⟨t, sz, e1, e2, s _ _ e3⟩
theorem DeedN.keep {R : List Addr} {H H' : Hp} {n : Int} {v : V} {D : Deed} {f : Addr} (h : DeedN R H n v D) (k : Keep [f] H H') (hf : ∀ xs, H f ≠ some (.lst xs)) : DeedN R H' n v D := by
  rcases h with ⟨t, r, st, row, e1, e2, e3, e4, e5⟩ | ⟨t, sz, e1, e2, e3⟩
  · exact .inl ⟨t, r, st, row, e1, e2, e3, k.t _ _ e4, k.k _ _ (fun z => hf _ (by rw [← List.mem_singleton.mp z]; exact e5)) e5⟩
  · exact .inr ⟨t, sz, e1, e2, k.t _ _ e3⟩
theorem DeedN.at_ {R : List Addr} {H : Hp} {n : Int} {v : V} {D : Deed} (h : DeedN R H n v D) : DeedAt H v D ∧ wc D ∧ onN n D := by
  rcases h with ⟨t, r, st, row, rfl, e2, e3, e4, e5⟩ | ⟨t, sz, rfl, e2, e3⟩
  · exact ⟨⟨t, r, e2, e4, e5⟩, trivial, rfl⟩
  · exact ⟨⟨t, e2, e3⟩, trivial, rfl⟩
def KeptAt (H : Hp) (kp : Addr) (D : Deed) : Prop := ∀ n st row, D = .write n st row → H kp = some (.lst (row.map V.int))
section
variable {K : PySem.W.Frag} {R : List Addr} {H : Hp} {σ : L2.St} {Q : VK} {n : Int} {v : V} {D : Deed}
theorem kept_reads (h : DeedN R H n v D) (hv : σ[7]? = some (some v)) (q : ∀ kp H', H kp = none → Same H H' → KeptAt H' kp D → (∃ xs, H' kp = some (.lst xs)) → Q (.ref kp) H') :
    (uIf (uTest (uOp rEq (uOp (rIxT K) (uC v) (uC (.int 0))) (uC (.str "write")))) (uCB (cList K) (uCons (uOp (rIxT K) (tVar 7) (uUn rNegI (uC (.int 1)))) uNil)) (uLst uNil)) σ H Q := by
  rcases h with ⟨t, r, st, row, rfl, rfl, e3, e4, e5⟩ | ⟨t, sz, rfl, rfl, e3⟩
  · refine x_ixT (SqT.of e4) (atI_of (by decide) rfl) ?_
    walk_at "go"
    refine x_ifT rfl ?_
    refine w_var hv ?_
    walk_at "go"
    refine x_ixT (v := .ref r) (SqT.of e4) rfl ?_
    walk_at "go"
    refine x_listL (SqL.of e5) fun l H1 nl hl s1 => ?_
    exact q l H1 nl s1 (fun _ _ _ z => by cases z; exact hl) ⟨_, hl⟩
  · refine x_ixT (SqT.of e3) (atI_of (by decide) rfl) ?_
    walk_at "go"
    refine x_ifF rfl ?_
    walk_at "go"
    refine x_lst fun l H1 nl hl s1 => ?_
    exact q l H1 nl s1 (fun _ _ _ z => by cases z) ⟨_, hl⟩
theorem wneq_reads {QB : Bool → Hp → Prop} {kp : Addr} (h : DeedN R H n v D) (hv : σ[7]? = some (some v)) (hk : σ[8]? = some (some (.ref kp))) (k : KeptAt H kp D) (q : QB false H) :
    (uAnd (uTest (uOp rEq (uOp (rIxT K) (uC v) (uC (.int 0))) (uC (.str "write")))) (uTest (uOp (rNeD K) (uOp (rIxT K) (tVar 7) (uC (.int 3))) (tVar 8)))) σ H QB := by
  rcases h with ⟨t, r, st, row, rfl, rfl, e3, e4, e5⟩ | ⟨t, sz, rfl, rfl, e3⟩
  · refine x_ixT (SqT.of e4) (atI_of (by decide) rfl) ?_
    walk_at "go"
    refine x_ifT rfl ?_
    refine w_var hv ?_
    refine x_ixT (v := .ref r) (SqT.of e4) rfl ?_
    refine w_var hk ?_
    refine x_neD (.lst (SqL.of e5) (dpAll_ints row)) (.lst (SqL.of (k _ _ _ rfl)) (dpAll_ints row)) (shaped_ints row) (shaped_ints row) ?_
    rw [show PyData.eqv (.list (row.map PyData.int)) (.list (row.map PyData.int)) = true from eqv_same (Shp.list (n := 0) fun x hx => by
      obtain ⟨i, _, rfl⟩ := List.mem_map.mp hx
      exact Shp.int i)]
    walk_at "go"
    exact q
  · refine x_ixT (SqT.of e3) (atI_of (by decide) rfl) ?_
    walk_at "go"
    refine x_ifF rfl ?_
    exact q
/-- a new list, perhaps, and one of R is put otherwise, perhaps -/
def Mut (R : List Addr) (H H' : Hp) : Prop := ∃ H1, Same H H1 ∧ (H' = H1 ∨ ∃ r xs ys, r ∈ R ∧ H r = some (.lst xs) ∧ H' = upd H1 r (.lst ys))
theorem mut_reads {De : Ends} (h : DeedN R H n v D) (hv : σ[7]? = some (some v)) (q : ∀ H', Mut R H H' → De.nx σ H') :
    (uIfS (uAnd (uTest (uOp rEq (uOp (rIxT K) (uC v) (uC (.int 0))) (uC (.str "write")))) (uTest (uOp (rNeD K) (uOp (rIxT K) (tVar 7) (uC (.int 3))) (uLst uNil)))) (uAsg (uOp rSubI (uC (.int 255)) (uOp (rIxL K) (uOp (rIxT K) (tVar 7) (uC (.int 3))) (uC (.int 0)))) (vSub (uOp (rIxT K) (tVar 7) (uC (.int 3))) (uC (.int 0)) rSetL)) uNext) De σ H := by
  rcases h with ⟨t, r, st, row, rfl, rfl, e3, e4, e5⟩ | ⟨t, sz, rfl, rfl, e3⟩
  · refine x_ixT (SqT.of e4) (atI_of (by decide) rfl) ?_
    walk_at "go"
    refine x_ifT rfl ?_
    refine w_var hv ?_
    refine x_ixT (v := .ref r) (SqT.of e4) rfl ?_
    walk_at "go"
    refine x_lst fun l H1 nl hl s1 => ?_
    refine x_neD (.lst (SqL.of (s1 _ _ e5)) (dpAll_ints row)) (.lst (SqL.of hl) .nil) (shaped_ints row) rfl ?_
    rw [eqv_nilI]
    walk_at "go"
    cases row with
    | nil =>
      refine x_ifF rfl ?_
      exact q H1 ⟨H1, s1, .inl rfl⟩
    | cons b rest =>
      refine x_ifT rfl ?_
      walk_at "go"
      refine w_var hv ?_
      refine x_ixT (v := .ref r) (SqT.of (s1 _ _ e4)) rfl ?_
      walk_at "go"
      refine x_ixL (v := .int b) (SqL.of (s1 _ _ e5)) (atI_of (by decide) rfl) ?_
      walk_at "go"
      refine w_var hv ?_
      refine x_ixT (v := .ref r) (SqT.of (s1 _ _ e4)) rfl ?_
      walk_at "go"
      refine x_setL (s1 _ _ e5) (ixN_nat (by decide) (by show 0 < _ + 1; omega)) ?_
      refine q _ ⟨H1, s1, .inr ⟨r, _, ((255 - b : Int) :: rest).map V.int, e3, e5, rfl⟩⟩
  · refine x_ixT (SqT.of e3) (atI_of (by decide) rfl) ?_
    walk_at "go"
    refine x_ifF rfl ?_
    refine x_ifF rfl ?_
    exact q H ⟨H, Same.refl H, .inl rfl⟩
theorem ask_reads {ms : List Addr} {f d bl lg : Addr} {B : List (Option (List Int))} {Lg : List Ent} {g : Int → List Int} {new : Bool} (L : Live K ms H f d bl lg B Lg (kF g new)) (lB : B.length = 256) (h0 : 1 ≤ n) (h1 : n ≤ 2) (ok : OkD D) (on : onN n D)
    (q : ∀ H' new', Keep [f] H H' → Live K ms H' f d bl lg B Lg (kF (updF g n (chg (g n) D).2) new') → Q (chg (g n) D).1 H') : AskC K f H Q (deedD D) := by
  refine L.askC (fun x e H' s' => ?_) fun r e H' k FA => ?_
  · rw [lB] at e
    rcases kg_deed L.gd h0 h1 ok on with ⟨y, e1, e2, e3, _⟩ | ⟨r, new', e1, _⟩
    · rw [e1] at e
      cases e
      have := q H' new (Keep.of s') (by rw [e3]; exact L.same s')
      rw [e2] at this
      exact this
    · rw [e1] at e
      cases e
  · rw [lB] at e
    rcases kg_deed L.gd h0 h1 ok on with ⟨y, e1, _⟩ | ⟨r', new', e1, e2, e3⟩
    · rw [e1] at e
      cases e
    · rw [e1] at e
      cases e
      rw [e2]
      refine q H' new' k ?_
      have g' := deed_good ok L.gd (count := 256) e1
      rw [e3] at FA g'
      exact L.deed k FA g'
end
theorem cutL_len (xs : List Int) (a b : Int) : (cutL xs a b).length ≤ xs.length := by
  unfold cutL
  rw [List.length_take, List.length_drop]
  omega
theorem pure_law {K : PySem.W.Frag} {vs : List V} {H : Hp} {Q : VK} {E : XK} (h : sp_law K vs H Q E) : t_law K (WE1 E) (fin Q) (start ["_law_script", "_law_files", "_law_held", "_law_k", "_law_cell_here", "_law_more", "_law_number", "_law_deed_here", "_law_kept", "_law_start", "_law_many", "_law_told_here", "_law_due", "_law_behind"] vs) H := by
  obtain ⟨a, ns, rfl, hS, hl, q⟩ := h
  show t_law K _ (fin Q) [some (.ref a), none, none, none, none, none, none, none, none, none, none, none, none, none] H
  unfold t_law
  walk_at "go"
  refine x_Disk (by decide) (by decide) fun d bl lg H2 nd nb nl s2 D2 => ?_
  walk_at "go"
  refine x_fmt D2 (by rw [List.length_replicate]; decide) (by decide) fun f H3 nf k3 L3 => ?_
  have nf0 := s2.free nf
  have s3 : Same H H3 := keepNew (new2 nb nl) s2 k3
  have lB : (fmtB (List.replicate (Int.toNat 256) (some (List.replicate 64 0)))).length = 256 := by
    rw [fmtB_len, List.length_replicate]
    rfl
  generalize fmtB (List.replicate (Int.toNat 256) (some (List.replicate 64 (0 : Int)))) = B at L3 lB
  generalize fmtL [] = Lg at L3
  obtain ⟨fx, _, _, _, _, _, _, _, ho⟩ := L3.ins
  walk_at "go"
  refine x_isC ho ?_
  walk_at "go"
  refine x_ifF rfl ?_
  walk_at "go"
  refine fun hd nhd => ?_
  have s4 : Same H3 (upd H3 hd (.dK [])) := Same.new nhd
  have h4 : (upd H3 hd (.dK [])) hd = some (.dK []) := upd_same
  generalize upd H3 hd (.dK []) = H4 at s4 h4
  have L4 := L3.add nhd s4 (by rw [h4]; rfl)
  simp only [tPairs]
  obtain ⟨_, _, _, _, _, _, _, _, ho4⟩ := L4.ins
  walk_at "go"
  refine x_meth_Files_make ho4 ?_
  walk_at "go"
  refine ⟨f, "/x", false, rfl, by decide, L4.deedC (fun x e => ?_) fun r e H5 k5 FA5 => ?_⟩
  · try dsimp only at e
    rw [lB, step1] at e
    cases e
  try dsimp only at e
  rw [lB, step1] at e
  cases e
  have L5 : Live K [hd, f, bl, lg] H5 f d bl lg B Lg ⟨A1, [], 0, 1, [2], true⟩ := L4.deed k5 FA5 (make_good L4.gd (count := 256) step1)
  have h5 := k5.k _ _ (notin1 (L4.ne_d h4)) h4
  have s5 : Same H H5 := keepNew (new1 nf0) (s3.trans s4) k5
  walk_at "go"
  refine x_lst fun l1 H6 n6 h6 s6 => ?_
  have L6 := L5.same s6
  obtain ⟨_, _, _, _, _, _, _, _, ho6⟩ := L6.ins
  walk_at "go"
  refine x_meth_Files_make ho6 ?_
  walk_at "go"
  refine ⟨f, "/y", false, rfl, by decide, L6.deedC (fun x e => ?_) fun r e H7 k7 FA7 => ?_⟩
  · try dsimp only at e
    rw [lB, step2] at e
    cases e
  try dsimp only at e
  rw [lB, step2] at e
  cases e
  have L7 : Live K [hd, f, bl, lg] H7 f d bl lg B Lg ⟨A2, [], 0, 1, [2], true⟩ := L6.deed k7 FA7 (make_good L6.gd (count := 256) step2)
  have h67 := s6 _ _ h5
  have h7 := k7.k _ _ (notin1 (L6.ne_d h67)) h67
  have g7 := k7.k _ _ (notin1 (L6.ne_l h6)) h6
  have s7 : Same H H7 := keepNew (new1 nf0) (s5.trans s6) k7
  walk_at "go"
  refine x_lst fun l2 H8 n8 h8 s8 => ?_
  have nhd0 : H hd = none := s3.free nhd
  have h78 := s8 _ _ h7
  refine ⟨h78, [(Sum.inl 1, .ref l1), (Sum.inl 2, .ref l2)], rfl, Nat.le_of_ble_eq_true rfl, ?_⟩
  rw [show mergeK [] [((Sum.inl 1 : Key), V.ref l1), (Sum.inl 2, .ref l2)] = [(Sum.inl 1, .ref l1), (Sum.inl 2, .ref l2)] from rfl]
  have k9 : Keep [hd] H8 (upd H8 hd (.dK [(Sum.inl 1, .ref l1), (Sum.inl 2, .ref l2)])) := updKeep h78 (fun xs z => by cases z)
  have s9 : Same H (upd H8 hd (.dK [(Sum.inl 1, .ref l1), (Sum.inl 2, .ref l2)])) := updNew nhd0 (s7.trans s8)
  have h9 : (upd H8 hd (.dK [(Sum.inl 1, .ref l1), (Sum.inl 2, .ref l2)])) hd = some (.dK [(Sum.inl 1, .ref l1), (Sum.inl 2, .ref l2)]) := upd_same
  generalize upd H8 hd (.dK [(Sum.inl 1, .ref l1), (Sum.inl 2, .ref l2)]) = H9 at k9 s9 h9
  have hdne : hd ≠ f ∧ hd ≠ d ∧ hd ≠ bl ∧ hd ≠ lg := by
    have ne : ∀ {x o}, H3 x = some o → hd ≠ x := fun hx z => by rw [← z, nhd] at hx; cases hx
    obtain ⟨ex, hod⟩ := L3.dk.o
    obtain ⟨wsb, hbb, _⟩ := L3.dk.b
    obtain ⟨wsl, hbl, _⟩ := L3.dk.l
    exact ⟨ne ho, ne hod, ne hbb, ne hbl⟩
  have L9 := (L7.same s8).mut (by simp) k9 (by rw [h9]; rfl) hdne.1 hdne.2.1 hdne.2.2.1 hdne.2.2.2
  have HA9 : HeldAt H9 hd (fun _ => []) := ⟨l1, l2, h9, k9.k _ _ (notin1 (ne_of (s8 _ _ g7) h78 (by intro z; cases z))) (s8 _ _ g7), k9.k _ _ (notin1 (ne_of h8 h78 (by intro z; cases z))) h8⟩
  obtain ⟨_, _, _, _, _, _, _, _, ho9⟩ := L9.ins
  walk_at "go"
  refine x_meth_Files_link ho9 ?_
  walk_at "go"
  refine ⟨f, "/x", "/z", rfl, by decide, by decide, L9.deedC (fun x e => ?_) fun r e H10 k10 FA10 => ?_⟩
  · try dsimp only at e
    rw [lB, step3] at e
    cases e
  try dsimp only at e
  rw [lB, step3] at e
  cases e
  have L10 : Live K [hd, f, bl, lg] H10 f d bl lg B Lg (kF (fun _ => []) true) := L9.deed k10 FA10 (link_good L9.gd (count := 256) step3)
  have heldK : ∀ {H' H'' : Hp} {g : Int → List Int} {F : Fs}, Live K [hd, f, bl, lg] H' f d bl lg B Lg F → Keep [f] H' H'' → HeldAt H' hd g → HeldAt H'' hd g := fun L k h => h.keep k (fun a ha kvs e => L.ne_d e (List.mem_singleton.mp ha)) (fun a ha xs e => absurd (List.mem_singleton.mp ha) (L.ne_l e))
  have HA10 := heldK L9 k10 HA9
  have s10 : Same H H10 := keepNew (new1 nf0) s9 k10
  walk_at "go"
  refine ⟨_, _, rfl, .inl (sq_same s10 hS), ?_⟩
  rw [List.length_map]
  refine ⟨_, _, rfl, ?_⟩
  refine ⟨_, _, rfl, ?_⟩
  have hn : ∃ n : Int, (if (if (ns.length : Int) < 20 then (ns.length : Int) else 20) > 1 then (if (ns.length : Int) < 20 then (ns.length : Int) else 20) else 1) = n ∧ 0 ≤ n ∧ n ≤ 20 := by
    refine ⟨_, rfl, ?_⟩
    split <;> split <;> omega
  obtain ⟨nn, enn, hn0, hn1⟩ := hn
  rw [enn]
  refine x_rng1 (by omega) (by omega) ?_
  refine x_forR (fun i σ H' => (∃ o3 o4 o5 o6 o7 o8 o9 o10 o11 o12 o13, σ = [some (.ref a), some (.ref f), some (.ref hd), o3, o4, o5, o6, o7, o8, o9, o10, o11, o12, o13]) ∧ Same H H' ∧ ∃ g new, Live K [hd, f, bl, lg] H' f d bl lg B Lg (kF g new) ∧ HeldAt H' hd g)
    ⟨⟨_, _, _, _, _, _, _, _, _, _, _, rfl⟩, s10, _, _, L10, HA10⟩ (fun i σ H' hi h => ?_) (fun σ H' h => ?_)
  rotate_left
  · obtain ⟨⟨o3, o4, o5, o6, o7, o8, o9, o10, o11, o12, o13, rfl⟩, _⟩ := h
    walk_at "go"
    exact q H'
  obtain ⟨⟨o3, o4, o5, o6, o7, o8, o9, o10, o11, o12, o13, rfl⟩, s, g, new, L, HA⟩ := h
  clear HA10 L10 HA9 L9 L7 L6 L5 L4 L3 D2 ho ho4 ho6 ho9
  walk_at "go"
  refine ⟨a, ns, _, rfl, sq_same s hS, hl, by omega, by omega, fun H11 s11 => ?_⟩
  walk_at "go"
  refine ⟨_, _, rfl, ?_⟩
  have m0 := (drawn_nn (cell ns (0 + (i : Int))) (0 + (i : Int))).1
  generalize drawn (cell ns (0 + (i : Int))) (0 + (i : Int)) = m at m0
  generalize cell ns (0 + (i : Int)) = cc
  have L := L.same s11
  have HA := HA.same s11
  have s := s.trans s11
  walk_at "go"
  refine x_modI (by decide) ?_
  walk_at "go"
  have n0 : 1 ≤ 1 + m % 2 := by omega
  have n1 : 1 + m % 2 ≤ 2 := by omega
  generalize 1 + m % 2 = n at n0 n1
  refine x_divI ⟨by decide, by decide⟩ ?_
  walk_at "go"
  obtain ⟨kvs, an, hk, hkl, hv, han, _⟩ := HA.get n0 n1
  refine x_dget (.inl hk) (k := Sum.inl n) rfl hv ?_
  refine x_lenL han ?_
  rw [List.length_map]
  walk_at "go"
  have gn := kg_len L.gd n0 n1
  refine ⟨_, _, _, _, rfl, by omega, by omega, by omega, fun v D H12 ok on s12 hD hrow => ?_⟩
  obtain ⟨R, L12, DN, hR⟩ : ∃ R, Live K (R ++ [hd, f, bl, lg]) H12 f d bl lg B Lg (kF g new) ∧ DeedN R H12 n v D ∧ ∀ r ∈ R, H11 r = none := by
    rcases on with ⟨st, row, rfl⟩ | ⟨sz, rfl⟩
    · obtain ⟨t, r, e1, e2, e3, e4⟩ := hrow _ _ _ rfl
      exact ⟨[r], L.add e2 s12 (by rw [e4]; rfl), .inl ⟨t, r, st, row, rfl, e1, by simp, e3, e4⟩, new1 e2⟩
    · obtain ⟨t, e1, e2⟩ := hD
      exact ⟨[], L.same s12, .inr ⟨t, sz, rfl, e1, e2⟩, fun _ h => (nomatch h)⟩
  walk_at "go"
  refine kept_reads DN rfl fun kp H13 nkp s13 hkp hkpl => ?_
  walk_at "go"
  have s113 := s12.trans s13
  have hk13 := s113 _ _ hk
  have han13 := s113 _ _ han
  have DN := DN.same s13
  obtain ⟨hD13, wD, oD⟩ := DN.at_
  refine x_dget (.inl hk13) (k := Sum.inl n) rfl hv ?_
  walk_at "go"
  refine ⟨an, v, D, g n, rfl, hD13, ok, wD, han13, gn, fun tp b H14 s14 htp hb hbn => ?_⟩
  walk_at "go"
  refine x_gtupN htp ?_
  walk_at "go"
  have L14 := (L12.same s13).same s14
  have DN := DN.same s14
  have hkp14 : KeptAt H14 kp D := fun _ _ _ z => s14 _ _ (hkp _ _ _ z)
  obtain ⟨kxs, hkpl⟩ := hkpl
  have hkpl := s14 _ _ hkpl
  have HA14 := (HA.same s113).same s14
  have s014 := (s.trans s113).trans s14
  have kl14 : ∀ c xs, H11 c = some (.lst xs) → H14 c = some (.lst xs) := fun c xs h => s14 _ _ (s113 _ _ h)
  have r13 : ∀ r ∈ R, (H13 r).isSome = true := fun r hr => (L12.same s13).so r (by simp [hr])
  have rb : ∀ r ∈ R, r ≠ b := fun r hr z => by
    rcases hbn with e | e
    · have := hR r hr
      rw [z, e, han] at this
      cases this
    · have := r13 r hr
      rw [z, e] at this
      cases this
  have rne : ∀ r ∈ R, r ≠ f ∧ r ≠ d ∧ r ≠ bl ∧ r ≠ lg := fun r hr => L.ne4 (hR r hr)
  have rhd : ∀ r ∈ R, r ≠ hd := fun r hr z => by
    have := hR r hr
    rw [z, hk] at this
    cases this
  obtain ⟨kvs', an', hk', hkl', hv', han', put⟩ := HA.get n0 n1
  rw [hk] at hk'
  cases hk'
  refine ⟨f, v, D, rfl, DN.at_.1, ok, wD, ask_reads L14 lB n0 n1 ok oD fun H15 new' k15 L15 => ?_⟩
  have nof : ∀ {c xs}, H14 c = some (.lst xs) → c ∉ [f] := fun h => notin1 (L14.ne_l h)
  have DN15 := DN.keep k15 (fun xs h => L14.ne_l h rfl)
  have hkp15 : KeptAt H15 kp D := fun _ _ _ z => k15.k _ _ (nof (hkp14 _ _ _ z)) (hkp14 _ _ _ z)
  have hk15 := k15.k _ _ (notin1 (L14.ne_d (s14 _ _ hk13))) (s14 _ _ hk13)
  have hb15 := k15.k _ _ (nof hb) hb
  have kl15 : ∀ c xs, H11 c = some (.lst xs) → H15 c = some (.lst xs) := fun c xs h => k15.k _ _ (nof (kl14 c xs h)) (kl14 c xs h)
  have s15 : Same H H15 := keepNew (new1 nf0) s014 k15
  have fl := dp_V (K := K) (H := H15) (chg_flat (held := g n) (D := D))
  walk_at "go"
  refine x_neD fl.1 fl.1 (fl.2.ok (by decide)) (fl.2.ok (by decide)) ?_
  rw [eqv_same fl.2]
  walk_at "go"
  refine x_ifF rfl ?_
  refine w_var rfl ?_
  refine wneq_reads DN15 rfl rfl hkp15 ?_
  walk_at "go"
  refine x_ifF rfl ?_
  walk_at "go"
  have hlB := kg_len L15.gd n0 n1
  rw [show updF g n (chg (g n) D).2 n = (chg (g n) D).2 from if_pos rfl] at hlB
  generalize (chg (g n) D).2 = bh at hb15 L15 hlB hb
  refine x_dput hk15 (by omega) (k := Sum.inl n) rfl ?_
  have k16 : Keep [hd] H15 (upd H15 hd (.dK (putK kvs (Sum.inl n) (.ref b)))) := updKeep hk15 (fun xs z => by cases z)
  have h16 : (upd H15 hd (.dK (putK kvs (Sum.inl n) (.ref b)))) hd = some (.dK (putK kvs (Sum.inl n) (.ref b))) := upd_same
  have s16 : Same H (upd H15 hd (.dK (putK kvs (Sum.inl n) (.ref b)))) := updNew nhd0 s15
  generalize upd H15 hd (.dK (putK kvs (Sum.inl n) (.ref b))) = H16 at k16 h16 s16
  have L16 := L15.mut (by simp) k16 (by rw [h16]; rfl) hdne.1 hdne.2.1 hdne.2.2.1 hdne.2.2.2
  have noh : ∀ {c xs}, H15 c = some (.lst xs) → c ∉ [hd] := fun h => notin1 (ne_of h hk15 (by intro z; cases z))
  have hb16 := k16.k _ _ (noh hb15) hb15
  have kl16 : ∀ c xs, H11 c = some (.lst xs) → H16 c = some (.lst xs) := fun c xs h => k16.k _ _ (noh (kl15 c xs h)) (kl15 c xs h)
  have DN16 := DN15.keep k16 (fun xs h => by rw [hk15] at h; cases h)
  walk_at "go"
  refine x_divI ⟨by decide, by decide⟩ ?_
  walk_at "go"
  refine x_modI (by decide) ?_
  walk_at "go"
  refine x_divI ⟨by decide, by decide⟩ ?_
  walk_at "go"
  refine x_modI (by decide) ?_
  have st0 := Int.emod_nonneg (m / 64) (show (700 : Int) ≠ 0 by decide)
  have mn0 := Int.emod_nonneg (m / 4096) (show (700 : Int) ≠ 0 by decide)
  generalize m / 64 % 700 = st at st0
  generalize m / 4096 % 700 = mn at mn0
  obtain ⟨_, _, _, _, _, _, _, _, ho16⟩ := L16.ins
  have fl16 : fileAt (kg (updF g n bh)) n = .ok ⟨false, bh, []⟩ := by
    rw [kg_at n0 n1, show updF g n bh n = bh from if_pos rfl]
  walk_at "go"
  refine x_meth_Files_read ho16 ?_
  walk_at "go"
  refine ⟨f, _, .ref d, _, n, st, mn, rfl, L16.fa, st0, mn0, fun x e => ?_, fun t e p17 H17 n17 h17 s17 => ?_⟩
  · rw [show fileAt (kF (updF g n bh) new').S n = .ok ⟨false, bh, []⟩ from fl16] at e
    cases e
  rw [show fileAt (kF (updF g n bh) new').S n = .ok ⟨false, bh, []⟩ from fl16] at e
  cases e
  have L17 := L16.same s17
  walk_at "go"
  refine x_slL (SqL.of (s17 _ _ hb16)) fun p18 H18 n18 h18 s18 => ?_
  rw [cutV_ints st0 mn0] at h18
  have shl : ∀ xs : List Int, Shp 1 (.list (xs.map PyData.int)) := fun xs => Shp.list (n := 0) fun x hx => by
    obtain ⟨i, _, rfl⟩ := List.mem_map.mp hx
    exact Shp.int i
  refine x_neD (.lst (SqL.of (s18 _ _ h17)) (dpAll_ints _)) (.lst (SqL.of h18) (dpAll_ints _)) (shaped_ints _) (shaped_ints _) ?_
  rw [eqv_same (shl _)]
  walk_at "go"
  refine x_ifF rfl ?_
  have L18 := L17.same s18
  obtain ⟨_, _, _, _, _, _, _, _, ho18⟩ := L18.ins
  walk_at "go"
  refine x_meth_Files_read ho18 ?_
  walk_at "go"
  refine x_shl ⟨by decide, by decide, by decide⟩ ?_
  refine ⟨f, _, .ref d, _, n, 0, _, rfl, L18.fa, by decide, by decide, fun x e => ?_, fun t e p19 H19 n19 h19 s19 => ?_⟩
  · rw [show fileAt (kF (updF g n bh) new').S n = .ok ⟨false, bh, []⟩ from fl16] at e
    cases e
  rw [show fileAt (kF (updF g n bh) new').S n = .ok ⟨false, bh, []⟩ from fl16] at e
  cases e
  have ecut : cutL bh 0 (1 * 2 ^ (Int.toNat 39)) = bh := by
    unfold cutL
    exact List.take_of_length_le (by show bh.length ≤ (549755813888 : Int).toNat; omega)
  rw [ecut] at h19
  have s1619 := (s17.trans s18).trans s19
  walk_at "go"
  refine x_neD (.lst (SqL.of h19) (dpAll_ints _)) (.lst (SqL.of (s1619 _ _ hb16)) (dpAll_ints _)) (shaped_ints _) (shaped_ints _) ?_
  rw [eqv_same (shl _)]
  walk_at "go"
  refine x_ifF rfl ?_
  have h17' := s19 _ _ (s18 _ _ h17)
  walk_at "go"
  refine x_app h17' (by rw [List.length_map]; exact Nat.lt_of_le_of_lt (cutL_len bh st mn) (by rw [sizeLine_eq]; omega)) ?_
  -- the list that was told is changed
  have k20 : Keep [p17] H19 (upd H19 p17 (.lst ((cutL bh st mn).map V.int ++ [.int 0]))) := updKeep h17' (fun xs z => by cases z)
  have i20 : ((upd H19 p17 (.lst ((cutL bh st mn).map V.int ++ [.int 0]))) p17).isSome = true := by rw [upd_same]; rfl
  have s20 : Same H16 (upd H19 p17 (.lst ((cutL bh st mn).map V.int ++ [.int 0]))) := updNew n17 s1619
  generalize upd H19 p17 (.lst ((cutL bh st mn).map V.int ++ [.int 0])) = H20 at k20 i20 s20
  have L20 := L16.tmp n17 s1619 k20 (by rw [h17']; rfl) i20
  have DN20 := DN16.same s20
  walk_at "go"
  refine mut_reads DN20 rfl fun H21 mu => ?_
  obtain ⟨H20', s20', mu⟩ := mu
  have L21 : Live K (R ++ [hd, f, bl, lg]) H21 f d bl lg B Lg (kF (updF g n bh) new') ∧ H21 hd = some (.dK (putK kvs (Sum.inl n) (.ref b))) ∧ H21 b = some (.lst (bh.map V.int)) ∧ (∀ c xs, H11 c = some (.lst xs) → H21 c = some (.lst xs)) ∧ Same H H21 := by
    have base : Live K (R ++ [hd, f, bl, lg]) H20' f d bl lg B Lg (kF (updF g n bh) new') ∧ H20' hd = some (.dK (putK kvs (Sum.inl n) (.ref b))) ∧ H20' b = some (.lst (bh.map V.int)) ∧ (∀ c xs, H11 c = some (.lst xs) → H20' c = some (.lst xs)) ∧ Same H H20' :=
      ⟨L20.same s20', (s20.trans s20') _ _ h16, (s20.trans s20') _ _ hb16, fun c xs h => (s20.trans s20') _ _ (kl16 c xs h), (s16.trans s20).trans s20'⟩
    rcases mu with rfl | ⟨r, xs, ys, r1, r2, rfl⟩
    · exact base
    · obtain ⟨b1, b2, b3, b4, b5⟩ := base
      have r3 := s20' _ _ r2
      have kr : Keep [r] H20' (upd H20' r (.lst ys)) := updKeep r3 (fun xs z => by cases z)
      obtain ⟨x1, x2, x3, x4⟩ := rne r r1
      refine ⟨b1.mut (by simp [r1]) kr (by rw [upd_same]; rfl) x1 x2 x3 x4, kr.k _ _ (notin1 (Ne.symm (rhd r r1))) b2, kr.k _ _ (notin1 (Ne.symm (rb r r1))) b3, fun c xs h => kr.k _ _ (notin1 fun z => ?_) (b4 c xs h), updNew ((s.free (hR r r1))) b5⟩
      have := hR r r1
      rw [← z, h] at this
      cases this
  obtain ⟨L21, hk21, hb21, kl21, s21⟩ := L21
  clear mu
  have HA21 := put b H21 bh hk21 kl21 hb21
  obtain ⟨_, _, _, _, _, _, _, _, ho21⟩ := L21.ins
  walk_at "go"
  refine x_meth_Files_read ho21 ?_
  walk_at "go"
  refine ⟨f, _, .ref d, _, n, st, mn, rfl, L21.fa, st0, mn0, fun x e => ?_, fun t e p22 H22 n22 h22 s22 => ?_⟩
  · rw [show fileAt (kF (updF g n bh) new').S n = .ok ⟨false, bh, []⟩ from fl16] at e
    cases e
  rw [show fileAt (kF (updF g n bh) new').S n = .ok ⟨false, bh, []⟩ from fl16] at e
  cases e
  walk_at "go"
  refine x_slL (SqL.of (s22 _ _ hb21)) fun p23 H23 n23 h23 s23 => ?_
  rw [cutV_ints st0 mn0] at h23
  refine x_neD (.lst (SqL.of (s23 _ _ h22)) (dpAll_ints _)) (.lst (SqL.of h23) (dpAll_ints _)) (shaped_ints _) (shaped_ints _) ?_
  rw [eqv_same (shl _)]
  walk_at "go"
  refine x_ifF rfl ?_
  have L23 := (L21.same s22).same s23
  obtain ⟨_, _, _, _, _, _, _, _, ho23⟩ := L23.ins
  walk_at "go"
  refine x_meth_Files_stat ho23 ?_
  walk_at "go"
  have est : statF (kF (updF g n bh) new').S n = .ok ("file", 3 - n, (bh.length : Int)) := by
    unfold statF
    show (match lk (kg (updF g n bh)) n with | none => _ | some t => _) = _
    rw [kg_file n0 n1, show updF g n bh n = bh from if_pos rfl]
    show Except.ok (_, linksF (kg (updF g n bh)) n, _) = _
    rw [kg_links n0 n1]
    rfl
  refine ⟨f, _, .ref d, _, n, rfl, L23.fa, by show 3 ≤ 1000; decide, fun x e => ?_, fun r e p24 H24 n24 h24 s24 => ?_⟩
  · rw [est] at e
    cases e
  rw [est] at e
  cases e
  walk_at "go"
  refine x_lenL (s24 _ _ (s23 _ _ (s22 _ _ hb21))) ?_
  rw [List.length_map]
  walk_at "go"
  refine x_tup fun p25 H25 n25 h25 s25 => ?_
  have sht : Shp 1 (.tuple [.str "file", .int (3 - n), .int (bh.length : Int)]) := Shp.tuple (n := 0) fun x hx => by
    simp only [List.mem_cons, List.not_mem_nil, or_false] at hx
    rcases hx with h | h | h
    · rw [h]; exact Shp.str (by decide +kernel)
    · rw [h]; exact Shp.int _
    · rw [h]; exact Shp.int _
  refine x_neD (d := .tuple [.str "file", .int (3 - n), .int (bh.length : Int)]) (e := .tuple [.str "file", .int (3 - n), .int (bh.length : Int)]) (.tup (SqT.of (s25 _ _ h24)) (.cons (.str _) (.cons (.int _) (.cons (.int _) .nil)))) (.tup (SqT.of h25) (.cons (.str _) (.cons (.int _) (.cons (.int _) .nil)))) (sht.ok (by decide)) (sht.ok (by decide)) ?_
  rw [eqv_same sht]
  walk_at "go"
  refine x_ifF rfl ?_
  have L25 := (L23.same s24).same s25
  obtain ⟨_, _, _, _, _, _, _, _, ho25⟩ := L25.ins
  walk_at "go"
  refine x_meth_Files_find ho25 ?_
  walk_at "go"
  refine ⟨f, _, .ref d, _, "/z", rfl, L25.fa, L25.gd.w.clo, by decide, ?_⟩
  rw [show findF (kF (updF g n bh) new').S "/z" = .ok 1 from kg_find _]
  intro H26 s26
  walk_at "go"
  refine x_ifF rfl ?_
  walk_at "go"
  have s2126 := (((s22.trans s23).trans s24).trans s25).trans s26
  exact ⟨⟨_, _, _, _, _, _, _, _, _, _, _, rfl⟩, s21.trans s2126, updF g n bh, new', ((L25.same s26).sub (fun a ha => List.mem_append_right _ ha) (by simp) (by simp) (by simp)), HA21.same s2126⟩
end SP

set_option Elab.async false
set_option linter.all false
set_option maxRecDepth 100000
set_option maxHeartbeats 0
namespace SP
open PySem PySem.Spec PyProof.Rows L2 L2H
def top (i : Nat) : Stmt := PySem.Challenge.pw_stillpoint_k14_bytes_of_files.main.body.getD i (.Pass ⟨0, 0, 0, 0⟩)
abbrev s_Disk___init__ : Stmt := inClass (top 17) 0
abbrev N_Disk___init__ : List Str := ["self", "count"]
theorem sc_Disk___init__ : FnScope N_Disk___init__ ["self", "count"] (defScope s_Disk___init__) := ⟨rfl, rfl, rfl, by decide +kernel, rfl, by decide +kernel, by decide +kernel⟩
abbrev s_Disk_write : Stmt := inClass (top 17) 2
abbrev N_Disk_write : List Str := ["self", "number", "block"]
theorem sc_Disk_write : FnScope N_Disk_write ["self", "number", "block"] (defScope s_Disk_write) := ⟨rfl, rfl, rfl, by decide +kernel, rfl, by decide +kernel, by decide +kernel⟩
abbrev s_Disk_barrier : Stmt := inClass (top 17) 3
abbrev N_Disk_barrier : List Str := ["self"]
theorem sc_Disk_barrier : FnScope N_Disk_barrier ["self"] (defScope s_Disk_barrier) := ⟨rfl, rfl, rfl, by decide +kernel, rfl, by decide +kernel, by decide +kernel⟩
abbrev s_many_blocks : Stmt := top 22
abbrev N_many_blocks : List Str := ["row"]
theorem sc_many_blocks : FnScope N_many_blocks ["row"] (defScope s_many_blocks) := ⟨rfl, rfl, rfl, by decide +kernel, rfl, by decide +kernel, by decide +kernel⟩
abbrev s_padded : Stmt := top 23
abbrev N_padded : List Str := ["row"]
theorem sc_padded : FnScope N_padded ["row"] (defScope s_padded) := ⟨rfl, rfl, rfl, by decide +kernel, rfl, by decide +kernel, by decide +kernel⟩
abbrev s_write_chain : Stmt := top 24
abbrev N_write_chain : List Str := ["disk", "row", "numbers", "k", "part", "following"]
theorem sc_write_chain : FnScope N_write_chain ["disk", "row", "numbers"] (defScope s_write_chain) := ⟨rfl, rfl, rfl, by decide +kernel, rfl, by decide +kernel, by decide +kernel⟩
abbrev s_write_root : Stmt := top 25
abbrev N_write_root : List Str := ["disk", "slot", "turn", "first"]
theorem sc_write_root : FnScope N_write_root ["disk", "slot", "turn", "first"] (defScope s_write_root) := ⟨rfl, rfl, rfl, by decide +kernel, rfl, by decide +kernel, by decide +kernel⟩
abbrev s_is_name : Stmt := top 30
abbrev N_is_name : List Str := ["text", "sign"]
theorem sc_is_name : FnScope N_is_name ["text"] (defScope s_is_name) := ⟨rfl, rfl, rfl, by decide +kernel, rfl, by decide +kernel, by decide +kernel⟩
abbrev s_need_name : Stmt := top 31
abbrev N_need_name : List Str := ["text"]
theorem sc_need_name : FnScope N_need_name ["text"] (defScope s_need_name) := ⟨rfl, rfl, rfl, by decide +kernel, rfl, by decide +kernel, by decide +kernel⟩
abbrev s_parts : Stmt := top 32
abbrev N_parts : List Str := ["path", "names", "name"]
theorem sc_parts : FnScope N_parts ["path"] (defScope s_parts) := ⟨rfl, rfl, rfl, by decide +kernel, rfl, by decide +kernel, by decide +kernel⟩
abbrev s_Thing___init__ : Stmt := inClass (top 38) 0
abbrev N_Thing___init__ : List Str := ["self", "kind", "held", "entries"]
theorem sc_Thing___init__ : FnScope N_Thing___init__ ["self", "kind", "held", "entries"] (defScope s_Thing___init__) := ⟨rfl, rfl, rfl, by decide +kernel, rfl, by decide +kernel, by decide +kernel⟩
abbrev s_fresh : Stmt := top 39
abbrev N_fresh : List Str := []
theorem sc_fresh : FnScope N_fresh [] (defScope s_fresh) := ⟨rfl, rfl, rfl, by decide +kernel, rfl, by decide +kernel, by decide +kernel⟩
abbrev s_copied : Stmt := top 40
abbrev N_copied : List Str := ["state", "found", "number", "thing"]
theorem sc_copied : FnScope N_copied ["state"] (defScope s_copied) := ⟨rfl, rfl, rfl, by decide +kernel, rfl, by decide +kernel, by decide +kernel⟩
abbrev s_size_of : Stmt := top 41
abbrev N_size_of : List Str := ["thing"]
theorem sc_size_of : FnScope N_size_of ["thing"] (defScope s_size_of) := ⟨rfl, rfl, rfl, by decide +kernel, rfl, by decide +kernel, by decide +kernel⟩
abbrev s_links_of : Stmt := top 42
abbrev N_links_of : List Str := ["state", "number", "thing"]
theorem sc_links_of : FnScope N_links_of ["state", "number"] (defScope s_links_of) := ⟨rfl, rfl, rfl, by decide +kernel, rfl, by decide +kernel, by decide +kernel⟩
abbrev s_least_free : Stmt := top 43
abbrev N_least_free : List Str := ["state", "number"]
theorem sc_least_free : FnScope N_least_free ["state"] (defScope s_least_free) := ⟨rfl, rfl, rfl, by decide +kernel, rfl, by decide +kernel, by decide +kernel⟩
abbrev s_entry_of : Stmt := top 44
abbrev N_entry_of : List Str := ["state", "number", "name"]
theorem sc_entry_of : FnScope N_entry_of ["state", "number", "name"] (defScope s_entry_of) := ⟨rfl, rfl, rfl, by decide +kernel, rfl, by decide +kernel, by decide +kernel⟩
abbrev s_walked : Stmt := top 45
abbrev N_walked : List Str := ["state", "names", "number", "name"]
theorem sc_walked : FnScope N_walked ["state", "names"] (defScope s_walked) := ⟨rfl, rfl, rfl, by decide +kernel, rfl, by decide +kernel, by decide +kernel⟩
abbrev s_place_of : Stmt := top 46
abbrev N_place_of : List Str := ["state", "names", "number"]
theorem sc_place_of : FnScope N_place_of ["state", "names"] (defScope s_place_of) := ⟨rfl, rfl, rfl, by decide +kernel, rfl, by decide +kernel, by decide +kernel⟩
abbrev s_text_bytes : Stmt := top 48
abbrev N_text_bytes : List Str := ["text", "sign"]
theorem sc_text_bytes : FnScope N_text_bytes ["text"] (defScope s_text_bytes) := ⟨rfl, rfl, rfl, by decide +kernel, rfl, by decide +kernel, by decide +kernel⟩
abbrev s_thing_bytes : Stmt := top 49
abbrev N_thing_bytes : List Str := ["number", "thing", "found", "name"]
theorem sc_thing_bytes : FnScope N_thing_bytes ["number", "thing"] (defScope s_thing_bytes) := ⟨rfl, rfl, rfl, by decide +kernel, rfl, by decide +kernel, by decide +kernel⟩
abbrev s_state_bytes : Stmt := top 50
abbrev N_state_bytes : List Str := ["state", "found", "number"]
theorem sc_state_bytes : FnScope N_state_bytes ["state"] (defScope s_state_bytes) := ⟨rfl, rfl, rfl, by decide +kernel, rfl, by decide +kernel, by decide +kernel⟩
abbrev s_image : Stmt := top 51
abbrev N_image : List Str := ["state", "snaps", "found", "name"]
theorem sc_image : FnScope N_image ["state", "snaps"] (defScope s_image) := ⟨rfl, rfl, rfl, by decide +kernel, rfl, by decide +kernel, by decide +kernel⟩
abbrev s_Files___init__ : Stmt := inClass (top 53) 0
abbrev N_Files___init__ : List Str := ["self", "disk", "state", "snaps"]
theorem sc_Files___init__ : FnScope N_Files___init__ ["self", "disk", "state", "snaps"] (defScope s_Files___init__) := ⟨rfl, rfl, rfl, by decide +kernel, rfl, by decide +kernel, by decide +kernel⟩
abbrev s_Files_may_write : Stmt := inClass (top 53) 1
abbrev N_Files_may_write : List Str := ["self"]
theorem sc_Files_may_write : FnScope N_Files_may_write ["self"] (defScope s_Files_may_write) := ⟨rfl, rfl, rfl, by decide +kernel, rfl, by decide +kernel, by decide +kernel⟩
abbrev s_Files_become : Stmt := inClass (top 53) 2
abbrev N_Files_become : List Str := ["self", "state", "snaps"]
theorem sc_Files_become : FnScope N_Files_become ["self", "state", "snaps"] (defScope s_Files_become) := ⟨rfl, rfl, rfl, by decide +kernel, rfl, by decide +kernel, by decide +kernel⟩
abbrev s_Files_file_at : Stmt := inClass (top 53) 3
abbrev N_Files_file_at : List Str := ["self", "number"]
theorem sc_Files_file_at : FnScope N_Files_file_at ["self", "number"] (defScope s_Files_file_at) := ⟨rfl, rfl, rfl, by decide +kernel, rfl, by decide +kernel, by decide +kernel⟩
abbrev s_Files_find : Stmt := inClass (top 53) 4
abbrev N_Files_find : List Str := ["self", "path"]
theorem sc_Files_find : FnScope N_Files_find ["self", "path"] (defScope s_Files_find) := ⟨rfl, rfl, rfl, by decide +kernel, rfl, by decide +kernel, by decide +kernel⟩
abbrev s_Files_place_for : Stmt := inClass (top 53) 5
abbrev N_Files_place_for : List Str := ["self", "names", "place"]
theorem sc_Files_place_for : FnScope N_Files_place_for ["self", "names"] (defScope s_Files_place_for) := ⟨rfl, rfl, rfl, by decide +kernel, rfl, by decide +kernel, by decide +kernel⟩
abbrev s_Files_make : Stmt := inClass (top 53) 6
abbrev N_Files_make : List Str := ["self", "path", "kind", "names", "place", "number", "state"]
theorem sc_Files_make : FnScope N_Files_make ["self", "path", "kind"] (defScope s_Files_make) := ⟨rfl, rfl, rfl, by decide +kernel, rfl, by decide +kernel, by decide +kernel⟩
abbrev s_Files_link : Stmt := inClass (top 53) 7
abbrev N_Files_link : List Str := ["self", "old", "new", "names", "others", "number", "place", "state"]
theorem sc_Files_link : FnScope N_Files_link ["self", "old", "new"] (defScope s_Files_link) := ⟨rfl, rfl, rfl, by decide +kernel, rfl, by decide +kernel, by decide +kernel⟩
abbrev s_Files_read : Stmt := inClass (top 53) 11
abbrev N_Files_read : List Str := ["self", "number", "start", "many"]
theorem sc_Files_read : FnScope N_Files_read ["self", "number", "start", "many"] (defScope s_Files_read) := ⟨rfl, rfl, rfl, by decide +kernel, rfl, by decide +kernel, by decide +kernel⟩
abbrev s_Files_write : Stmt := inClass (top 53) 12
abbrev N_Files_write : List Str := ["self", "number", "start", "row", "old", "held", "state"]
theorem sc_Files_write : FnScope N_Files_write ["self", "number", "start", "row"] (defScope s_Files_write) := ⟨rfl, rfl, rfl, by decide +kernel, rfl, by decide +kernel, by decide +kernel⟩
abbrev s_Files_cut : Stmt := inClass (top 53) 13
abbrev N_Files_cut : List Str := ["self", "number", "size", "old", "state"]
theorem sc_Files_cut : FnScope N_Files_cut ["self", "number", "size"] (defScope s_Files_cut) := ⟨rfl, rfl, rfl, by decide +kernel, rfl, by decide +kernel, by decide +kernel⟩
abbrev s_Files_stat : Stmt := inClass (top 53) 14
abbrev N_Files_stat : List Str := ["self", "number", "thing"]
theorem sc_Files_stat : FnScope N_Files_stat ["self", "number"] (defScope s_Files_stat) := ⟨rfl, rfl, rfl, by decide +kernel, rfl, by decide +kernel, by decide +kernel⟩
abbrev s_formatted : Stmt := top 54
abbrev N_formatted : List Str := ["disk", "files", "row"]
theorem sc_formatted : FnScope N_formatted ["disk"] (defScope s_formatted) := ⟨rfl, rfl, rfl, by decide +kernel, rfl, by decide +kernel, by decide +kernel⟩
abbrev s__law_cell : Stmt := top 56
abbrev N__law_cell : List Str := ["_law_script", "_law_k"]
theorem sc__law_cell : FnScope N__law_cell ["_law_script", "_law_k"] (defScope s__law_cell) := ⟨rfl, rfl, rfl, by decide +kernel, rfl, by decide +kernel, by decide +kernel⟩
abbrev s__law_drawn : Stmt := top 57
abbrev N__law_drawn : List Str := ["_law_cell_here", "_law_k", "_law_more"]
theorem sc__law_drawn : FnScope N__law_drawn ["_law_cell_here", "_law_k"] (defScope s__law_drawn) := ⟨rfl, rfl, rfl, by decide +kernel, rfl, by decide +kernel, by decide +kernel⟩
abbrev s__law_word : Stmt := top 58
abbrev N__law_word : List Str := ["_law_e", "_law_flags", "_law_names"]
theorem sc__law_word : FnScope N__law_word ["_law_e"] (defScope s__law_word) := ⟨rfl, rfl, rfl, by decide +kernel, rfl, by decide +kernel, by decide +kernel⟩
abbrev s__law_told : Stmt := top 59
abbrev N__law_told : List Str := ["_law_files", "_law_deed_here", "_law_e"]
theorem sc__law_told : FnScope N__law_told ["_law_files", "_law_deed_here"] (defScope s__law_told) := ⟨rfl, rfl, rfl, by decide +kernel, rfl, by decide +kernel, by decide +kernel⟩
abbrev s__law_changed : Stmt := top 60
abbrev N__law_changed : List Str := ["_law_held", "_law_deed_here", "_law_end", "_law_wide"]
theorem sc__law_changed : FnScope N__law_changed ["_law_held", "_law_deed_here"] (defScope s__law_changed) := ⟨rfl, rfl, rfl, by decide +kernel, rfl, by decide +kernel, by decide +kernel⟩
abbrev s__law_deed : Stmt := top 61
abbrev N__law_deed : List Str := ["_law_cell_here", "_law_more", "_law_number", "_law_size", "_law_start", "_law_many", "_law_j"]
theorem sc__law_deed : FnScope N__law_deed ["_law_cell_here", "_law_more", "_law_number", "_law_size"] (defScope s__law_deed) := ⟨rfl, rfl, rfl, by decide +kernel, rfl, by decide +kernel, by decide +kernel⟩
abbrev s_law : Stmt := top 62
abbrev N_law : List Str := ["_law_script", "_law_files", "_law_held", "_law_k", "_law_cell_here", "_law_more", "_law_number", "_law_deed_here", "_law_kept", "_law_start", "_law_many", "_law_told_here", "_law_due", "_law_behind"]
theorem sc_law : FnScope N_law ["_law_script"] (defScope s_law) := ⟨rfl, rfl, rfl, by decide +kernel, rfl, by decide +kernel, by decide +kernel⟩
structure Tx (K : PySem.W.Frag) (mg : Str → Option Value) : Prop where
  g_StillError : mg "StillError" = some (.ref (He.ga K "StillError"))
  e_StillError : ExcX K mg "StillError"
  g_NoThing : mg "NoThing" = some (.ref (He.ga K "NoThing"))
  e_NoThing : ExcX K mg "NoThing"
  g_NoDirectory : mg "NoDirectory" = some (.ref (He.ga K "NoDirectory"))
  e_NoDirectory : ExcX K mg "NoDirectory"
  g_BadName : mg "BadName" = some (.ref (He.ga K "BadName"))
  e_BadName : ExcX K mg "BadName"
  g_IsThere : mg "IsThere" = some (.ref (He.ga K "IsThere"))
  e_IsThere : ExcX K mg "IsThere"
  g_NoRoom : mg "NoRoom" = some (.ref (He.ga K "NoRoom"))
  e_NoRoom : ExcX K mg "NoRoom"
  g_NotEmpty : mg "NotEmpty" = some (.ref (He.ga K "NotEmpty"))
  e_NotEmpty : ExcX K mg "NotEmpty"
  g_WrongKind : mg "WrongKind" = some (.ref (He.ga K "WrongKind"))
  e_WrongKind : ExcX K mg "WrongKind"
  g_TooGreat : mg "TooGreat" = some (.ref (He.ga K "TooGreat"))
  e_TooGreat : ExcX K mg "TooGreat"
  g_ReadOnly : mg "ReadOnly" = some (.ref (He.ga K "ReadOnly"))
  e_ReadOnly : ExcX K mg "ReadOnly"
  g_NoFiles : mg "NoFiles" = some (.ref (He.ga K "NoFiles"))
  e_NoFiles : ExcX K mg "NoFiles"
  g_Disk : mg "Disk" = some (.ref (He.ga K "Disk"))
  x_Disk : PxDisk K
  k_Disk : Mk K (He.ga K "Disk") (He.ma K (He.ga K "Disk") "__init__")
  g_Thing : mg "Thing" = some (.ref (He.ga K "Thing"))
  x_Thing : PxThing K
  k_Thing : Mk K (He.ga K "Thing") (He.ma K (He.ga K "Thing") "__init__")
  g_Files : mg "Files" = some (.ref (He.ga K "Files"))
  x_Files : PxFiles K
  k_Files : Mk K (He.ga K "Files") (He.ma K (He.ga K "Files") "__init__")
  d_Disk___init__ : ∃ fd, FunD K "__init__" "Disk.__init__" (defArgs s_Disk___init__) (defBody s_Disk___init__) (defScope s_Disk___init__) [] [] (He.ma K (He.ga K "Disk") "__init__") fd
  m_Disk_write : Meth K (He.ga K "Disk") "write" (He.ma K (He.ga K "Disk") "write")
  d_Disk_write : ∃ fd, FunD K "write" "Disk.write" (defArgs s_Disk_write) (defBody s_Disk_write) (defScope s_Disk_write) [] [] (He.ma K (He.ga K "Disk") "write") fd
  m_Disk_barrier : Meth K (He.ga K "Disk") "barrier" (He.ma K (He.ga K "Disk") "barrier")
  d_Disk_barrier : ∃ fd, FunD K "barrier" "Disk.barrier" (defArgs s_Disk_barrier) (defBody s_Disk_barrier) (defScope s_Disk_barrier) [] [] (He.ma K (He.ga K "Disk") "barrier") fd
  g_many_blocks : mg "many_blocks" = some (.ref (He.ga K "many_blocks"))
  d_many_blocks : ∃ fd, FunD K "many_blocks" "many_blocks" (defArgs s_many_blocks) (defBody s_many_blocks) (defScope s_many_blocks) [] [] (He.ga K "many_blocks") fd
  g_padded : mg "padded" = some (.ref (He.ga K "padded"))
  d_padded : ∃ fd, FunD K "padded" "padded" (defArgs s_padded) (defBody s_padded) (defScope s_padded) [] [] (He.ga K "padded") fd
  g_write_chain : mg "write_chain" = some (.ref (He.ga K "write_chain"))
  d_write_chain : ∃ fd, FunD K "write_chain" "write_chain" (defArgs s_write_chain) (defBody s_write_chain) (defScope s_write_chain) [] [] (He.ga K "write_chain") fd
  g_write_root : mg "write_root" = some (.ref (He.ga K "write_root"))
  d_write_root : ∃ fd, FunD K "write_root" "write_root" (defArgs s_write_root) (defBody s_write_root) (defScope s_write_root) [] [] (He.ga K "write_root") fd
  g_is_name : mg "is_name" = some (.ref (He.ga K "is_name"))
  d_is_name : ∃ fd, FunD K "is_name" "is_name" (defArgs s_is_name) (defBody s_is_name) (defScope s_is_name) [] [] (He.ga K "is_name") fd
  g_need_name : mg "need_name" = some (.ref (He.ga K "need_name"))
  d_need_name : ∃ fd, FunD K "need_name" "need_name" (defArgs s_need_name) (defBody s_need_name) (defScope s_need_name) [] [] (He.ga K "need_name") fd
  g_parts : mg "parts" = some (.ref (He.ga K "parts"))
  d_parts : ∃ fd, FunD K "parts" "parts" (defArgs s_parts) (defBody s_parts) (defScope s_parts) [] [] (He.ga K "parts") fd
  d_Thing___init__ : ∃ fd, FunD K "__init__" "Thing.__init__" (defArgs s_Thing___init__) (defBody s_Thing___init__) (defScope s_Thing___init__) [] [] (He.ma K (He.ga K "Thing") "__init__") fd
  g_fresh : mg "fresh" = some (.ref (He.ga K "fresh"))
  d_fresh : ∃ fd, FunD K "fresh" "fresh" (defArgs s_fresh) (defBody s_fresh) (defScope s_fresh) [] [] (He.ga K "fresh") fd
  g_copied : mg "copied" = some (.ref (He.ga K "copied"))
  d_copied : ∃ fd, FunD K "copied" "copied" (defArgs s_copied) (defBody s_copied) (defScope s_copied) [] [] (He.ga K "copied") fd
  g_size_of : mg "size_of" = some (.ref (He.ga K "size_of"))
  d_size_of : ∃ fd, FunD K "size_of" "size_of" (defArgs s_size_of) (defBody s_size_of) (defScope s_size_of) [] [] (He.ga K "size_of") fd
  g_links_of : mg "links_of" = some (.ref (He.ga K "links_of"))
  d_links_of : ∃ fd, FunD K "links_of" "links_of" (defArgs s_links_of) (defBody s_links_of) (defScope s_links_of) [] [] (He.ga K "links_of") fd
  g_least_free : mg "least_free" = some (.ref (He.ga K "least_free"))
  d_least_free : ∃ fd, FunD K "least_free" "least_free" (defArgs s_least_free) (defBody s_least_free) (defScope s_least_free) [] [] (He.ga K "least_free") fd
  g_entry_of : mg "entry_of" = some (.ref (He.ga K "entry_of"))
  d_entry_of : ∃ fd, FunD K "entry_of" "entry_of" (defArgs s_entry_of) (defBody s_entry_of) (defScope s_entry_of) [] [] (He.ga K "entry_of") fd
  g_walked : mg "walked" = some (.ref (He.ga K "walked"))
  d_walked : ∃ fd, FunD K "walked" "walked" (defArgs s_walked) (defBody s_walked) (defScope s_walked) [] [] (He.ga K "walked") fd
  g_place_of : mg "place_of" = some (.ref (He.ga K "place_of"))
  d_place_of : ∃ fd, FunD K "place_of" "place_of" (defArgs s_place_of) (defBody s_place_of) (defScope s_place_of) [] [] (He.ga K "place_of") fd
  g_text_bytes : mg "text_bytes" = some (.ref (He.ga K "text_bytes"))
  d_text_bytes : ∃ fd, FunD K "text_bytes" "text_bytes" (defArgs s_text_bytes) (defBody s_text_bytes) (defScope s_text_bytes) [] [] (He.ga K "text_bytes") fd
  g_thing_bytes : mg "thing_bytes" = some (.ref (He.ga K "thing_bytes"))
  d_thing_bytes : ∃ fd, FunD K "thing_bytes" "thing_bytes" (defArgs s_thing_bytes) (defBody s_thing_bytes) (defScope s_thing_bytes) [] [] (He.ga K "thing_bytes") fd
  g_state_bytes : mg "state_bytes" = some (.ref (He.ga K "state_bytes"))
  d_state_bytes : ∃ fd, FunD K "state_bytes" "state_bytes" (defArgs s_state_bytes) (defBody s_state_bytes) (defScope s_state_bytes) [] [] (He.ga K "state_bytes") fd
  g_image : mg "image" = some (.ref (He.ga K "image"))
  d_image : ∃ fd, FunD K "image" "image" (defArgs s_image) (defBody s_image) (defScope s_image) [] [] (He.ga K "image") fd
  d_Files___init__ : ∃ fd, FunD K "__init__" "Files.__init__" (defArgs s_Files___init__) (defBody s_Files___init__) (defScope s_Files___init__) [] [] (He.ma K (He.ga K "Files") "__init__") fd
  m_Files_may_write : Meth K (He.ga K "Files") "may_write" (He.ma K (He.ga K "Files") "may_write")
  d_Files_may_write : ∃ fd, FunD K "may_write" "Files.may_write" (defArgs s_Files_may_write) (defBody s_Files_may_write) (defScope s_Files_may_write) [] [] (He.ma K (He.ga K "Files") "may_write") fd
  m_Files_become : Meth K (He.ga K "Files") "become" (He.ma K (He.ga K "Files") "become")
  d_Files_become : ∃ fd, FunD K "become" "Files.become" (defArgs s_Files_become) (defBody s_Files_become) (defScope s_Files_become) [] [] (He.ma K (He.ga K "Files") "become") fd
  m_Files_file_at : Meth K (He.ga K "Files") "file_at" (He.ma K (He.ga K "Files") "file_at")
  d_Files_file_at : ∃ fd, FunD K "file_at" "Files.file_at" (defArgs s_Files_file_at) (defBody s_Files_file_at) (defScope s_Files_file_at) [] [] (He.ma K (He.ga K "Files") "file_at") fd
  m_Files_find : Meth K (He.ga K "Files") "find" (He.ma K (He.ga K "Files") "find")
  d_Files_find : ∃ fd, FunD K "find" "Files.find" (defArgs s_Files_find) (defBody s_Files_find) (defScope s_Files_find) [] [] (He.ma K (He.ga K "Files") "find") fd
  m_Files_place_for : Meth K (He.ga K "Files") "place_for" (He.ma K (He.ga K "Files") "place_for")
  d_Files_place_for : ∃ fd, FunD K "place_for" "Files.place_for" (defArgs s_Files_place_for) (defBody s_Files_place_for) (defScope s_Files_place_for) [] [] (He.ma K (He.ga K "Files") "place_for") fd
  m_Files_make : Meth K (He.ga K "Files") "make" (He.ma K (He.ga K "Files") "make")
  d_Files_make : ∃ fd, FunD K "make" "Files.make" (defArgs s_Files_make) (defBody s_Files_make) (defScope s_Files_make) [] [] (He.ma K (He.ga K "Files") "make") fd
  m_Files_link : Meth K (He.ga K "Files") "link" (He.ma K (He.ga K "Files") "link")
  d_Files_link : ∃ fd, FunD K "link" "Files.link" (defArgs s_Files_link) (defBody s_Files_link) (defScope s_Files_link) [] [] (He.ma K (He.ga K "Files") "link") fd
  m_Files_read : Meth K (He.ga K "Files") "read" (He.ma K (He.ga K "Files") "read")
  d_Files_read : ∃ fd, FunD K "read" "Files.read" (defArgs s_Files_read) (defBody s_Files_read) (defScope s_Files_read) [] [] (He.ma K (He.ga K "Files") "read") fd
  m_Files_write : Meth K (He.ga K "Files") "write" (He.ma K (He.ga K "Files") "write")
  d_Files_write : ∃ fd, FunD K "write" "Files.write" (defArgs s_Files_write) (defBody s_Files_write) (defScope s_Files_write) [] [] (He.ma K (He.ga K "Files") "write") fd
  m_Files_cut : Meth K (He.ga K "Files") "cut" (He.ma K (He.ga K "Files") "cut")
  d_Files_cut : ∃ fd, FunD K "cut" "Files.cut" (defArgs s_Files_cut) (defBody s_Files_cut) (defScope s_Files_cut) [] [] (He.ma K (He.ga K "Files") "cut") fd
  m_Files_stat : Meth K (He.ga K "Files") "stat" (He.ma K (He.ga K "Files") "stat")
  d_Files_stat : ∃ fd, FunD K "stat" "Files.stat" (defArgs s_Files_stat) (defBody s_Files_stat) (defScope s_Files_stat) [] [] (He.ma K (He.ga K "Files") "stat") fd
  g_formatted : mg "formatted" = some (.ref (He.ga K "formatted"))
  d_formatted : ∃ fd, FunD K "formatted" "formatted" (defArgs s_formatted) (defBody s_formatted) (defScope s_formatted) [] [] (He.ga K "formatted") fd
  g__law_cell : mg "_law_cell" = some (.ref (He.ga K "_law_cell"))
  d__law_cell : ∃ fd, FunD K "_law_cell" "_law_cell" (defArgs s__law_cell) (defBody s__law_cell) (defScope s__law_cell) [] [] (He.ga K "_law_cell") fd
  g__law_drawn : mg "_law_drawn" = some (.ref (He.ga K "_law_drawn"))
  d__law_drawn : ∃ fd, FunD K "_law_drawn" "_law_drawn" (defArgs s__law_drawn) (defBody s__law_drawn) (defScope s__law_drawn) [] [] (He.ga K "_law_drawn") fd
  g__law_word : mg "_law_word" = some (.ref (He.ga K "_law_word"))
  d__law_word : ∃ fd, FunD K "_law_word" "_law_word" (defArgs s__law_word) (defBody s__law_word) (defScope s__law_word) [] [] (He.ga K "_law_word") fd
  g__law_told : mg "_law_told" = some (.ref (He.ga K "_law_told"))
  d__law_told : ∃ fd, FunD K "_law_told" "_law_told" (defArgs s__law_told) (defBody s__law_told) (defScope s__law_told) [] [] (He.ga K "_law_told") fd
  g__law_changed : mg "_law_changed" = some (.ref (He.ga K "_law_changed"))
  d__law_changed : ∃ fd, FunD K "_law_changed" "_law_changed" (defArgs s__law_changed) (defBody s__law_changed) (defScope s__law_changed) [] [] (He.ga K "_law_changed") fd
  g__law_deed : mg "_law_deed" = some (.ref (He.ga K "_law_deed"))
  d__law_deed : ∃ fd, FunD K "_law_deed" "_law_deed" (defArgs s__law_deed) (defBody s__law_deed) (defScope s__law_deed) [] [] (He.ga K "_law_deed") fd
  g_law : mg "law" = some (.ref (He.ga K "law"))
  d_law : ∃ fd, FunD K "law" "law" (defArgs s_law) (defBody s_law) (defScope s_law) [] [] (He.ga K "law") fd
  b_len : mg "len" = none
  b_all : mg "all" = none
  b_any : mg "any" = none
  b_sum : mg "sum" = none
  b_min : mg "min" = none
  b_max : mg "max" = none
  b_ord : mg "ord" = none
  b_sorted : mg "sorted" = none
  b_list : mg "list" = none
  b_dict : mg "dict" = none
  b_tuple : mg "tuple" = none
  b_int : mg "int" = none
  b_range : mg "range" = none
  b_isinstance : mg "isinstance" = none
  b_ValueError : mg "ValueError" = none
  i_SIZE : ∃ t, mg "SIZE" = some (.int 64 t)
  i_LEAST : ∃ t, mg "LEAST" = some (.int 16 t)
  i_MOST : ∃ t, mg "MOST" = some (.int 256 t)
  i_PAYLOAD : ∃ t, mg "PAYLOAD" = some (.int 62 t)
  i_MARK : ∃ t, mg "MARK" = some (.int 83 t)
  i_FIRST : ∃ t, mg "FIRST" = some (.int 2 t)
  i_MOST_NAME : ∃ t, mg "MOST_NAME" = some (.int 8 t)
  i_MOST_PATH : ∃ t, mg "MOST_PATH" = some (.int 60 t)
  z_SIGNS : ∃ t, mg "SIGNS" = some (.str txt_SIGNS t)
  i_MOST_THINGS : ∃ t, mg "MOST_THINGS" = some (.int 32 t)
  i_MOST_SIZE : ∃ t, mg "MOST_SIZE" = some (.int 600 t)
  i_MOST_ENTRIES : ∃ t, mg "MOST_ENTRIES" = some (.int 40 t)
  i_ENTRY : ∃ t, mg "ENTRY" = some (.int 10 t)
  x10 : XK10 K
  is_Files : C8.InsC K (He.ga K "Files")
theorem len_Disk___init__ {K : PySem.W.Frag} {vs : List V} {H : Hp} {Q : VK} {E : XK} (h : sp_Disk___init__ K vs H Q E) : vs.length = 2 := by
  unfold sp_Disk___init__ at h
  repeat (first | (exact congrArg List.length h.1) | (obtain ⟨_, h⟩ := h))
theorem len_Disk_write {K : PySem.W.Frag} {vs : List V} {H : Hp} {Q : VK} {E : XK} (h : sp_Disk_write K vs H Q E) : vs.length = 3 := by
  unfold sp_Disk_write at h
  repeat (first | (exact congrArg List.length h.1) | (obtain ⟨_, h⟩ := h))
theorem len_Disk_barrier {K : PySem.W.Frag} {vs : List V} {H : Hp} {Q : VK} {E : XK} (h : sp_Disk_barrier K vs H Q E) : vs.length = 1 := by
  unfold sp_Disk_barrier at h
  repeat (first | (exact congrArg List.length h.1) | (obtain ⟨_, h⟩ := h))
theorem len_many_blocks {K : PySem.W.Frag} {vs : List V} {H : Hp} {Q : VK} {E : XK} (h : sp_many_blocks K vs H Q E) : vs.length = 1 := by
  unfold sp_many_blocks at h
  repeat (first | (exact congrArg List.length h.1) | (obtain ⟨_, h⟩ := h))
theorem len_padded {K : PySem.W.Frag} {vs : List V} {H : Hp} {Q : VK} {E : XK} (h : sp_padded K vs H Q E) : vs.length = 1 := by
  unfold sp_padded at h
  repeat (first | (exact congrArg List.length h.1) | (obtain ⟨_, h⟩ := h))
theorem len_write_chain {K : PySem.W.Frag} {vs : List V} {H : Hp} {Q : VK} {E : XK} (h : sp_write_chain K vs H Q E) : vs.length = 3 := by
  unfold sp_write_chain at h
  repeat (first | (exact congrArg List.length h.1) | (obtain ⟨_, h⟩ := h))
theorem len_write_root {K : PySem.W.Frag} {vs : List V} {H : Hp} {Q : VK} {E : XK} (h : sp_write_root K vs H Q E) : vs.length = 4 := by
  unfold sp_write_root at h
  repeat (first | (exact congrArg List.length h.1) | (obtain ⟨_, h⟩ := h))
theorem len_is_name {K : PySem.W.Frag} {vs : List V} {H : Hp} {Q : VK} {E : XK} (h : sp_is_name K vs H Q E) : vs.length = 1 := by
  unfold sp_is_name at h
  repeat (first | (exact congrArg List.length h.1) | (obtain ⟨_, h⟩ := h))
theorem len_need_name {K : PySem.W.Frag} {vs : List V} {H : Hp} {Q : VK} {E : XK} (h : sp_need_name K vs H Q E) : vs.length = 1 := by
  unfold sp_need_name at h
  repeat (first | (exact congrArg List.length h.1) | (obtain ⟨_, h⟩ := h))
theorem len_parts {K : PySem.W.Frag} {vs : List V} {H : Hp} {Q : VK} {E : XK} (h : sp_parts K vs H Q E) : vs.length = 1 := by
  unfold sp_parts at h
  repeat (first | (exact congrArg List.length h.1) | (obtain ⟨_, h⟩ := h))
theorem len_Thing___init__ {K : PySem.W.Frag} {vs : List V} {H : Hp} {Q : VK} {E : XK} (h : sp_Thing___init__ K vs H Q E) : vs.length = 4 := by
  unfold sp_Thing___init__ at h
  repeat (first | (exact congrArg List.length h.1) | (obtain ⟨_, h⟩ := h))
theorem len_fresh {K : PySem.W.Frag} {vs : List V} {H : Hp} {Q : VK} {E : XK} (h : sp_fresh K vs H Q E) : vs.length = 0 := by
  unfold sp_fresh at h
  repeat (first | (exact congrArg List.length h.1) | (obtain ⟨_, h⟩ := h))
theorem len_copied {K : PySem.W.Frag} {vs : List V} {H : Hp} {Q : VK} {E : XK} (h : sp_copied K vs H Q E) : vs.length = 1 := by
  unfold sp_copied at h
  repeat (first | (exact congrArg List.length h.1) | (obtain ⟨_, h⟩ := h))
theorem len_size_of {K : PySem.W.Frag} {vs : List V} {H : Hp} {Q : VK} {E : XK} (h : sp_size_of K vs H Q E) : vs.length = 1 := by
  unfold sp_size_of at h
  repeat (first | (exact congrArg List.length h.1) | (obtain ⟨_, h⟩ := h))
theorem len_links_of {K : PySem.W.Frag} {vs : List V} {H : Hp} {Q : VK} {E : XK} (h : sp_links_of K vs H Q E) : vs.length = 2 := by
  unfold sp_links_of at h
  repeat (first | (exact congrArg List.length h.1) | (obtain ⟨_, h⟩ := h))
theorem len_least_free {K : PySem.W.Frag} {vs : List V} {H : Hp} {Q : VK} {E : XK} (h : sp_least_free K vs H Q E) : vs.length = 1 := by
  unfold sp_least_free at h
  repeat (first | (exact congrArg List.length h.1) | (obtain ⟨_, h⟩ := h))
theorem len_entry_of {K : PySem.W.Frag} {vs : List V} {H : Hp} {Q : VK} {E : XK} (h : sp_entry_of K vs H Q E) : vs.length = 3 := by
  unfold sp_entry_of at h
  repeat (first | (exact congrArg List.length h.1) | (obtain ⟨_, h⟩ := h))
theorem len_walked {K : PySem.W.Frag} {vs : List V} {H : Hp} {Q : VK} {E : XK} (h : sp_walked K vs H Q E) : vs.length = 2 := by
  unfold sp_walked at h
  repeat (first | (exact congrArg List.length h.1) | (obtain ⟨_, h⟩ := h))
theorem len_place_of {K : PySem.W.Frag} {vs : List V} {H : Hp} {Q : VK} {E : XK} (h : sp_place_of K vs H Q E) : vs.length = 2 := by
  unfold sp_place_of at h
  repeat (first | (exact congrArg List.length h.1) | (obtain ⟨_, h⟩ := h))
theorem len_text_bytes {K : PySem.W.Frag} {vs : List V} {H : Hp} {Q : VK} {E : XK} (h : sp_text_bytes K vs H Q E) : vs.length = 1 := by
  unfold sp_text_bytes at h
  repeat (first | (exact congrArg List.length h.1) | (obtain ⟨_, h⟩ := h))
theorem len_thing_bytes {K : PySem.W.Frag} {vs : List V} {H : Hp} {Q : VK} {E : XK} (h : sp_thing_bytes K vs H Q E) : vs.length = 2 := by
  unfold sp_thing_bytes at h
  repeat (first | (exact congrArg List.length h.1) | (obtain ⟨_, h⟩ := h))
theorem len_state_bytes {K : PySem.W.Frag} {vs : List V} {H : Hp} {Q : VK} {E : XK} (h : sp_state_bytes K vs H Q E) : vs.length = 1 := by
  unfold sp_state_bytes at h
  repeat (first | (exact congrArg List.length h.1) | (obtain ⟨_, h⟩ := h))
theorem len_image {K : PySem.W.Frag} {vs : List V} {H : Hp} {Q : VK} {E : XK} (h : sp_image K vs H Q E) : vs.length = 2 := by
  unfold sp_image at h
  repeat (first | (exact congrArg List.length h.1) | (obtain ⟨_, h⟩ := h))
theorem len_Files___init__ {K : PySem.W.Frag} {vs : List V} {H : Hp} {Q : VK} {E : XK} (h : sp_Files___init__ K vs H Q E) : vs.length = 4 := by
  unfold sp_Files___init__ at h
  repeat (first | (exact congrArg List.length h.1) | (obtain ⟨_, h⟩ := h))
theorem len_Files_may_write {K : PySem.W.Frag} {vs : List V} {H : Hp} {Q : VK} {E : XK} (h : sp_Files_may_write K vs H Q E) : vs.length = 1 := by
  unfold sp_Files_may_write at h
  repeat (first | (exact congrArg List.length h.1) | (obtain ⟨_, h⟩ := h))
theorem len_Files_become {K : PySem.W.Frag} {vs : List V} {H : Hp} {Q : VK} {E : XK} (h : sp_Files_become K vs H Q E) : vs.length = 3 := by
  unfold sp_Files_become at h
  repeat (first | (exact congrArg List.length h.1) | (obtain ⟨_, h⟩ := h))
theorem len_Files_file_at {K : PySem.W.Frag} {vs : List V} {H : Hp} {Q : VK} {E : XK} (h : sp_Files_file_at K vs H Q E) : vs.length = 2 := by
  unfold sp_Files_file_at at h
  repeat (first | (exact congrArg List.length h.1) | (obtain ⟨_, h⟩ := h))
theorem len_Files_find {K : PySem.W.Frag} {vs : List V} {H : Hp} {Q : VK} {E : XK} (h : sp_Files_find K vs H Q E) : vs.length = 2 := by
  unfold sp_Files_find at h
  repeat (first | (exact congrArg List.length h.1) | (obtain ⟨_, h⟩ := h))
theorem len_Files_place_for {K : PySem.W.Frag} {vs : List V} {H : Hp} {Q : VK} {E : XK} (h : sp_Files_place_for K vs H Q E) : vs.length = 2 := by
  unfold sp_Files_place_for at h
  repeat (first | (exact congrArg List.length h.1) | (obtain ⟨_, h⟩ := h))
theorem len_Files_make {K : PySem.W.Frag} {vs : List V} {H : Hp} {Q : VK} {E : XK} (h : sp_Files_make K vs H Q E) : vs.length = 3 := by
  unfold sp_Files_make at h
  repeat (first | (exact congrArg List.length h.1) | (obtain ⟨_, h⟩ := h))
theorem len_Files_link {K : PySem.W.Frag} {vs : List V} {H : Hp} {Q : VK} {E : XK} (h : sp_Files_link K vs H Q E) : vs.length = 3 := by
  unfold sp_Files_link at h
  repeat (first | (exact congrArg List.length h.1) | (obtain ⟨_, h⟩ := h))
theorem len_Files_read {K : PySem.W.Frag} {vs : List V} {H : Hp} {Q : VK} {E : XK} (h : sp_Files_read K vs H Q E) : vs.length = 4 := by
  unfold sp_Files_read at h
  repeat (first | (exact congrArg List.length h.1) | (obtain ⟨_, h⟩ := h))
theorem len_Files_write {K : PySem.W.Frag} {vs : List V} {H : Hp} {Q : VK} {E : XK} (h : sp_Files_write K vs H Q E) : vs.length = 4 := by
  unfold sp_Files_write at h
  repeat (first | (exact congrArg List.length h.1) | (obtain ⟨_, h⟩ := h))
theorem len_Files_cut {K : PySem.W.Frag} {vs : List V} {H : Hp} {Q : VK} {E : XK} (h : sp_Files_cut K vs H Q E) : vs.length = 3 := by
  unfold sp_Files_cut at h
  repeat (first | (exact congrArg List.length h.1) | (obtain ⟨_, h⟩ := h))
theorem len_Files_stat {K : PySem.W.Frag} {vs : List V} {H : Hp} {Q : VK} {E : XK} (h : sp_Files_stat K vs H Q E) : vs.length = 2 := by
  unfold sp_Files_stat at h
  repeat (first | (exact congrArg List.length h.1) | (obtain ⟨_, h⟩ := h))
theorem len_formatted {K : PySem.W.Frag} {vs : List V} {H : Hp} {Q : VK} {E : XK} (h : sp_formatted K vs H Q E) : vs.length = 1 := by
  unfold sp_formatted at h
  repeat (first | (exact congrArg List.length h.1) | (obtain ⟨_, h⟩ := h))
theorem len__law_cell {K : PySem.W.Frag} {vs : List V} {H : Hp} {Q : VK} {E : XK} (h : sp__law_cell K vs H Q E) : vs.length = 2 := by
  unfold sp__law_cell at h
  repeat (first | (exact congrArg List.length h.1) | (obtain ⟨_, h⟩ := h))
theorem len__law_drawn {K : PySem.W.Frag} {vs : List V} {H : Hp} {Q : VK} {E : XK} (h : sp__law_drawn K vs H Q E) : vs.length = 2 := by
  unfold sp__law_drawn at h
  repeat (first | (exact congrArg List.length h.1) | (obtain ⟨_, h⟩ := h))
theorem len__law_word {K : PySem.W.Frag} {p : Addr × Obj} {vs : List V} {H : Hp} {Q : VK} {E : XK} (h : sp__law_word K p vs H Q E) : vs.length = 1 := by
  obtain ⟨d, hd, rfl, _⟩ := h
  rfl
theorem len__law_told {K : PySem.W.Frag} {vs : List V} {H : Hp} {Q : VK} {E : XK} (h : sp__law_told K vs H Q E) : vs.length = 2 := by
  unfold sp__law_told at h
  repeat (first | (exact congrArg List.length h.1) | (obtain ⟨_, h⟩ := h))
theorem len__law_changed {K : PySem.W.Frag} {vs : List V} {H : Hp} {Q : VK} {E : XK} (h : sp__law_changed K vs H Q E) : vs.length = 2 := by
  unfold sp__law_changed at h
  repeat (first | (exact congrArg List.length h.1) | (obtain ⟨_, h⟩ := h))
theorem len__law_deed {K : PySem.W.Frag} {vs : List V} {H : Hp} {Q : VK} {E : XK} (h : sp__law_deed K vs H Q E) : vs.length = 4 := by
  unfold sp__law_deed at h
  repeat (first | (exact congrArg List.length h.1) | (obtain ⟨_, h⟩ := h))
theorem len_law {K : PySem.W.Frag} {vs : List V} {H : Hp} {Q : VK} {E : XK} (h : sp_law K vs H Q E) : vs.length = 1 := by
  unfold sp_law at h
  repeat (first | (exact congrArg List.length h.1) | (obtain ⟨_, h⟩ := h))
def Ct_Disk___init__ (P : Program) (w : World) (K : PySem.W.Frag) (mg : Str → Option Value) (base : Heap) : Prop := ∃ fd : FuncData, FnOk P w K mg base (L2.CX P w) 1 (He.ma K (He.ga K "Disk") "__init__") fd ["self", "count"] (sp_Disk___init__ K) ∧ Binds K fd ["self", "count"] [] ∧ PySem.W.keepIn K (.ref (He.ma K (He.ga K "Disk") "__init__")) = true
def Ct_Disk_write (P : Program) (w : World) (K : PySem.W.Frag) (mg : Str → Option Value) (base : Heap) : Prop := ∃ fd : FuncData, FnOk P w K mg base (L2.CX P w) 1 (He.ma K (He.ga K "Disk") "write") fd ["self", "number", "block"] (sp_Disk_write K) ∧ Binds K fd ["self", "number", "block"] [] ∧ PySem.W.keepIn K (.ref (He.ma K (He.ga K "Disk") "write")) = true
def Ct_Disk_barrier (P : Program) (w : World) (K : PySem.W.Frag) (mg : Str → Option Value) (base : Heap) : Prop := ∃ fd : FuncData, FnOk P w K mg base (L2.CX P w) 1 (He.ma K (He.ga K "Disk") "barrier") fd ["self"] (sp_Disk_barrier K) ∧ Binds K fd ["self"] [] ∧ PySem.W.keepIn K (.ref (He.ma K (He.ga K "Disk") "barrier")) = true
def Ct_many_blocks (P : Program) (w : World) (K : PySem.W.Frag) (mg : Str → Option Value) (base : Heap) : Prop := ∃ fd : FuncData, FnOk P w K mg base (L2.CX P w) 1 (He.ga K "many_blocks") fd ["row"] (sp_many_blocks K) ∧ Binds K fd ["row"] [] ∧ PySem.W.keepIn K (.ref (He.ga K "many_blocks")) = true
def Ct_padded (P : Program) (w : World) (K : PySem.W.Frag) (mg : Str → Option Value) (base : Heap) : Prop := ∃ fd : FuncData, FnOk P w K mg base (L2.CX P w) 1 (He.ga K "padded") fd ["row"] (sp_padded K) ∧ Binds K fd ["row"] [] ∧ PySem.W.keepIn K (.ref (He.ga K "padded")) = true
def Ct_write_chain (P : Program) (w : World) (K : PySem.W.Frag) (mg : Str → Option Value) (base : Heap) : Prop := ∃ fd : FuncData, FnOk P w K mg base (L2.CX P w) 2 (He.ga K "write_chain") fd ["disk", "row", "numbers"] (sp_write_chain K) ∧ Binds K fd ["disk", "row", "numbers"] [] ∧ PySem.W.keepIn K (.ref (He.ga K "write_chain")) = true
def Ct_write_root (P : Program) (w : World) (K : PySem.W.Frag) (mg : Str → Option Value) (base : Heap) : Prop := ∃ fd : FuncData, FnOk P w K mg base (L2.CX P w) 2 (He.ga K "write_root") fd ["disk", "slot", "turn", "first"] (sp_write_root K) ∧ Binds K fd ["disk", "slot", "turn", "first"] [] ∧ PySem.W.keepIn K (.ref (He.ga K "write_root")) = true
def Ct_is_name (P : Program) (w : World) (K : PySem.W.Frag) (mg : Str → Option Value) (base : Heap) : Prop := ∃ fd : FuncData, FnOk P w K mg base (L2.CX P w) 1 (He.ga K "is_name") fd ["text"] (sp_is_name K) ∧ Binds K fd ["text"] [] ∧ PySem.W.keepIn K (.ref (He.ga K "is_name")) = true
def Ct_need_name (P : Program) (w : World) (K : PySem.W.Frag) (mg : Str → Option Value) (base : Heap) : Prop := ∃ fd : FuncData, FnOk P w K mg base (L2.CX P w) 2 (He.ga K "need_name") fd ["text"] (sp_need_name K) ∧ Binds K fd ["text"] [] ∧ PySem.W.keepIn K (.ref (He.ga K "need_name")) = true
def Ct_parts (P : Program) (w : World) (K : PySem.W.Frag) (mg : Str → Option Value) (base : Heap) : Prop := ∃ fd : FuncData, FnOk P w K mg base (L2.CX P w) 3 (He.ga K "parts") fd ["path"] (sp_parts K) ∧ Binds K fd ["path"] [] ∧ PySem.W.keepIn K (.ref (He.ga K "parts")) = true
def Ct_Thing___init__ (P : Program) (w : World) (K : PySem.W.Frag) (mg : Str → Option Value) (base : Heap) : Prop := ∃ fd : FuncData, FnOk P w K mg base (L2.CX P w) 1 (He.ma K (He.ga K "Thing") "__init__") fd ["self", "kind", "held", "entries"] (sp_Thing___init__ K) ∧ Binds K fd ["self", "kind", "held", "entries"] [] ∧ PySem.W.keepIn K (.ref (He.ma K (He.ga K "Thing") "__init__")) = true
def Ct_fresh (P : Program) (w : World) (K : PySem.W.Frag) (mg : Str → Option Value) (base : Heap) : Prop := ∃ fd : FuncData, FnOk P w K mg base (L2.CX P w) 3 (He.ga K "fresh") fd [] (sp_fresh K) ∧ Binds K fd [] [] ∧ PySem.W.keepIn K (.ref (He.ga K "fresh")) = true
def Ct_copied (P : Program) (w : World) (K : PySem.W.Frag) (mg : Str → Option Value) (base : Heap) : Prop := ∃ fd : FuncData, FnOk P w K mg base (L2.CX P w) 3 (He.ga K "copied") fd ["state"] (sp_copied K) ∧ Binds K fd ["state"] [] ∧ PySem.W.keepIn K (.ref (He.ga K "copied")) = true
def Ct_size_of (P : Program) (w : World) (K : PySem.W.Frag) (mg : Str → Option Value) (base : Heap) : Prop := ∃ fd : FuncData, FnOk P w K mg base (L2.CX P w) 1 (He.ga K "size_of") fd ["thing"] (sp_size_of K) ∧ Binds K fd ["thing"] [] ∧ PySem.W.keepIn K (.ref (He.ga K "size_of")) = true
def Ct_links_of (P : Program) (w : World) (K : PySem.W.Frag) (mg : Str → Option Value) (base : Heap) : Prop := ∃ fd : FuncData, FnOk P w K mg base (L2.CX P w) 1 (He.ga K "links_of") fd ["state", "number"] (sp_links_of K) ∧ Binds K fd ["state", "number"] [] ∧ PySem.W.keepIn K (.ref (He.ga K "links_of")) = true
def Ct_least_free (P : Program) (w : World) (K : PySem.W.Frag) (mg : Str → Option Value) (base : Heap) : Prop := ∃ fd : FuncData, FnOk P w K mg base (L2.CX P w) 1 (He.ga K "least_free") fd ["state"] (sp_least_free K) ∧ Binds K fd ["state"] [] ∧ PySem.W.keepIn K (.ref (He.ga K "least_free")) = true
def Ct_entry_of (P : Program) (w : World) (K : PySem.W.Frag) (mg : Str → Option Value) (base : Heap) : Prop := ∃ fd : FuncData, FnOk P w K mg base (L2.CX P w) 1 (He.ga K "entry_of") fd ["state", "number", "name"] (sp_entry_of K) ∧ Binds K fd ["state", "number", "name"] [] ∧ PySem.W.keepIn K (.ref (He.ga K "entry_of")) = true
def Ct_walked (P : Program) (w : World) (K : PySem.W.Frag) (mg : Str → Option Value) (base : Heap) : Prop := ∃ fd : FuncData, FnOk P w K mg base (L2.CX P w) 2 (He.ga K "walked") fd ["state", "names"] (sp_walked K) ∧ Binds K fd ["state", "names"] [] ∧ PySem.W.keepIn K (.ref (He.ga K "walked")) = true
def Ct_place_of (P : Program) (w : World) (K : PySem.W.Frag) (mg : Str → Option Value) (base : Heap) : Prop := ∃ fd : FuncData, FnOk P w K mg base (L2.CX P w) 3 (He.ga K "place_of") fd ["state", "names"] (sp_place_of K) ∧ Binds K fd ["state", "names"] [] ∧ PySem.W.keepIn K (.ref (He.ga K "place_of")) = true
def Ct_text_bytes (P : Program) (w : World) (K : PySem.W.Frag) (mg : Str → Option Value) (base : Heap) : Prop := ∃ fd : FuncData, FnOk P w K mg base (L2.CX P w) 1 (He.ga K "text_bytes") fd ["text"] (sp_text_bytes K) ∧ Binds K fd ["text"] [] ∧ PySem.W.keepIn K (.ref (He.ga K "text_bytes")) = true
def Ct_thing_bytes (P : Program) (w : World) (K : PySem.W.Frag) (mg : Str → Option Value) (base : Heap) : Prop := ∃ fd : FuncData, FnOk P w K mg base (L2.CX P w) 2 (He.ga K "thing_bytes") fd ["number", "thing"] (sp_thing_bytes K) ∧ Binds K fd ["number", "thing"] [] ∧ PySem.W.keepIn K (.ref (He.ga K "thing_bytes")) = true
def Ct_state_bytes (P : Program) (w : World) (K : PySem.W.Frag) (mg : Str → Option Value) (base : Heap) : Prop := ∃ fd : FuncData, FnOk P w K mg base (L2.CX P w) 3 (He.ga K "state_bytes") fd ["state"] (sp_state_bytes K) ∧ Binds K fd ["state"] [] ∧ PySem.W.keepIn K (.ref (He.ga K "state_bytes")) = true
def Ct_image (P : Program) (w : World) (K : PySem.W.Frag) (mg : Str → Option Value) (base : Heap) : Prop := ∃ fd : FuncData, FnOk P w K mg base (L2.CX P w) 4 (He.ga K "image") fd ["state", "snaps"] (sp_image K) ∧ Binds K fd ["state", "snaps"] [] ∧ PySem.W.keepIn K (.ref (He.ga K "image")) = true
def Ct_Files___init__ (P : Program) (w : World) (K : PySem.W.Frag) (mg : Str → Option Value) (base : Heap) : Prop := ∃ fd : FuncData, FnOk P w K mg base (L2.CX P w) 1 (He.ma K (He.ga K "Files") "__init__") fd ["self", "disk", "state", "snaps"] (sp_Files___init__ K) ∧ Binds K fd ["self", "disk", "state", "snaps"] [] ∧ PySem.W.keepIn K (.ref (He.ma K (He.ga K "Files") "__init__")) = true
def Ct_Files_may_write (P : Program) (w : World) (K : PySem.W.Frag) (mg : Str → Option Value) (base : Heap) : Prop := ∃ fd : FuncData, FnOk P w K mg base (L2.CX P w) 1 (He.ma K (He.ga K "Files") "may_write") fd ["self"] (sp_Files_may_write K) ∧ Binds K fd ["self"] [] ∧ PySem.W.keepIn K (.ref (He.ma K (He.ga K "Files") "may_write")) = true
def Ct_Files_become (P : Program) (w : World) (K : PySem.W.Frag) (mg : Str → Option Value) (base : Heap) : Prop := ∃ fd : FuncData, FnOk P w K mg base (L2.CX P w) 5 (He.ma K (He.ga K "Files") "become") fd ["self", "state", "snaps"] (sp_Files_become K) ∧ Binds K fd ["self", "state", "snaps"] [] ∧ PySem.W.keepIn K (.ref (He.ma K (He.ga K "Files") "become")) = true
def Ct_Files_file_at (P : Program) (w : World) (K : PySem.W.Frag) (mg : Str → Option Value) (base : Heap) : Prop := ∃ fd : FuncData, FnOk P w K mg base (L2.CX P w) 1 (He.ma K (He.ga K "Files") "file_at") fd ["self", "number"] (sp_Files_file_at K) ∧ Binds K fd ["self", "number"] [] ∧ PySem.W.keepIn K (.ref (He.ma K (He.ga K "Files") "file_at")) = true
def Ct_Files_find (P : Program) (w : World) (K : PySem.W.Frag) (mg : Str → Option Value) (base : Heap) : Prop := ∃ fd : FuncData, FnOk P w K mg base (L2.CX P w) 4 (He.ma K (He.ga K "Files") "find") fd ["self", "path"] (sp_Files_find K) ∧ Binds K fd ["self", "path"] [] ∧ PySem.W.keepIn K (.ref (He.ma K (He.ga K "Files") "find")) = true
def Ct_Files_place_for (P : Program) (w : World) (K : PySem.W.Frag) (mg : Str → Option Value) (base : Heap) : Prop := ∃ fd : FuncData, FnOk P w K mg base (L2.CX P w) 4 (He.ma K (He.ga K "Files") "place_for") fd ["self", "names"] (sp_Files_place_for K) ∧ Binds K fd ["self", "names"] [] ∧ PySem.W.keepIn K (.ref (He.ma K (He.ga K "Files") "place_for")) = true
def Ct_Files_make (P : Program) (w : World) (K : PySem.W.Frag) (mg : Str → Option Value) (base : Heap) : Prop := ∃ fd : FuncData, FnOk P w K mg base (L2.CX P w) 6 (He.ma K (He.ga K "Files") "make") fd ["self", "path", "kind"] (sp_Files_make K) ∧ Binds K fd ["self", "path", "kind"] [] ∧ PySem.W.keepIn K (.ref (He.ma K (He.ga K "Files") "make")) = true
def Ct_Files_link (P : Program) (w : World) (K : PySem.W.Frag) (mg : Str → Option Value) (base : Heap) : Prop := ∃ fd : FuncData, FnOk P w K mg base (L2.CX P w) 6 (He.ma K (He.ga K "Files") "link") fd ["self", "old", "new"] (sp_Files_link K) ∧ Binds K fd ["self", "old", "new"] [] ∧ PySem.W.keepIn K (.ref (He.ma K (He.ga K "Files") "link")) = true
def Ct_Files_read (P : Program) (w : World) (K : PySem.W.Frag) (mg : Str → Option Value) (base : Heap) : Prop := ∃ fd : FuncData, FnOk P w K mg base (L2.CX P w) 2 (He.ma K (He.ga K "Files") "read") fd ["self", "number", "start", "many"] (sp_Files_read K) ∧ Binds K fd ["self", "number", "start", "many"] [] ∧ PySem.W.keepIn K (.ref (He.ma K (He.ga K "Files") "read")) = true
def Ct_Files_write (P : Program) (w : World) (K : PySem.W.Frag) (mg : Str → Option Value) (base : Heap) : Prop := ∃ fd : FuncData, FnOk P w K mg base (L2.CX P w) 6 (He.ma K (He.ga K "Files") "write") fd ["self", "number", "start", "row"] (sp_Files_write K) ∧ Binds K fd ["self", "number", "start", "row"] [] ∧ PySem.W.keepIn K (.ref (He.ma K (He.ga K "Files") "write")) = true
def Ct_Files_cut (P : Program) (w : World) (K : PySem.W.Frag) (mg : Str → Option Value) (base : Heap) : Prop := ∃ fd : FuncData, FnOk P w K mg base (L2.CX P w) 6 (He.ma K (He.ga K "Files") "cut") fd ["self", "number", "size"] (sp_Files_cut K) ∧ Binds K fd ["self", "number", "size"] [] ∧ PySem.W.keepIn K (.ref (He.ma K (He.ga K "Files") "cut")) = true
def Ct_Files_stat (P : Program) (w : World) (K : PySem.W.Frag) (mg : Str → Option Value) (base : Heap) : Prop := ∃ fd : FuncData, FnOk P w K mg base (L2.CX P w) 2 (He.ma K (He.ga K "Files") "stat") fd ["self", "number"] (sp_Files_stat K) ∧ Binds K fd ["self", "number"] [] ∧ PySem.W.keepIn K (.ref (He.ma K (He.ga K "Files") "stat")) = true
def Ct_formatted (P : Program) (w : World) (K : PySem.W.Frag) (mg : Str → Option Value) (base : Heap) : Prop := ∃ fd : FuncData, FnOk P w K mg base (L2.CX P w) 5 (He.ga K "formatted") fd ["disk"] (sp_formatted K) ∧ Binds K fd ["disk"] [] ∧ PySem.W.keepIn K (.ref (He.ga K "formatted")) = true
def Ct__law_cell (P : Program) (w : World) (K : PySem.W.Frag) (mg : Str → Option Value) (base : Heap) : Prop := ∃ fd : FuncData, FnOk P w K mg base (L2.CX P w) 1 (He.ga K "_law_cell") fd ["_law_script", "_law_k"] (sp__law_cell K) ∧ Binds K fd ["_law_script", "_law_k"] [] ∧ PySem.W.keepIn K (.ref (He.ga K "_law_cell")) = true
def Ct__law_drawn (P : Program) (w : World) (K : PySem.W.Frag) (mg : Str → Option Value) (base : Heap) : Prop := ∃ fd : FuncData, FnOk P w K mg base (L2.CX P w) 1 (He.ga K "_law_drawn") fd ["_law_cell_here", "_law_k"] (sp__law_drawn K) ∧ Binds K fd ["_law_cell_here", "_law_k"] [] ∧ PySem.W.keepIn K (.ref (He.ga K "_law_drawn")) = true
def Ct__law_word (P : Program) (w : World) (K : PySem.W.Frag) (mg : Str → Option Value) (base : Heap) : Prop := ∃ fd : FuncData, FnP P w K mg base 1 (He.ga K "_law_word") fd ["_law_e"] (sp__law_word K) ∧ Binds K fd ["_law_e"] [] ∧ PySem.W.keepIn K (.ref (He.ga K "_law_word")) = true
def Ct__law_told (P : Program) (w : World) (K : PySem.W.Frag) (mg : Str → Option Value) (base : Heap) : Prop := ∃ fd : FuncData, FnOk P w K mg base (L2.CX P w) 7 (He.ga K "_law_told") fd ["_law_files", "_law_deed_here"] (sp__law_told K) ∧ Binds K fd ["_law_files", "_law_deed_here"] [] ∧ PySem.W.keepIn K (.ref (He.ga K "_law_told")) = true
def Ct__law_changed (P : Program) (w : World) (K : PySem.W.Frag) (mg : Str → Option Value) (base : Heap) : Prop := ∃ fd : FuncData, FnOk P w K mg base (L2.CX P w) 1 (He.ga K "_law_changed") fd ["_law_held", "_law_deed_here"] (sp__law_changed K) ∧ Binds K fd ["_law_held", "_law_deed_here"] [] ∧ PySem.W.keepIn K (.ref (He.ga K "_law_changed")) = true
def Ct__law_deed (P : Program) (w : World) (K : PySem.W.Frag) (mg : Str → Option Value) (base : Heap) : Prop := ∃ fd : FuncData, FnOk P w K mg base (L2.CX P w) 1 (He.ga K "_law_deed") fd ["_law_cell_here", "_law_more", "_law_number", "_law_size"] (sp__law_deed K) ∧ Binds K fd ["_law_cell_here", "_law_more", "_law_number", "_law_size"] [] ∧ PySem.W.keepIn K (.ref (He.ga K "_law_deed")) = true
def Ct_law (P : Program) (w : World) (K : PySem.W.Frag) (mg : Str → Option Value) (base : Heap) : Prop := ∃ fd : FuncData, FnOk P w K mg base (L2.CX P w) 8 (He.ga K "law") fd ["_law_script"] (sp_law K) ∧ Binds K fd ["_law_script"] [] ∧ PySem.W.keepIn K (.ref (He.ga K "law")) = true
theorem ok_Disk___init__ {P : Program} {w : World} {K : PySem.W.Frag} {mg : Str → Option Value} {base : Heap} (T : Tx K mg) : Ct_Disk___init__ P w K mg base := by
  obtain ⟨fd, F⟩ := T.d_Disk___init__
  refine ⟨fd, FunD.ok F sc_Disk___init__ (fun vs H Q E h => len_Disk___init__ h) (fun cdv A outer s H vs Q E hr h => ?_), FunD.bindsN F fun _ _ _ _ _ _ us hl => match us, hl with | [_, _], _ => rfl, F.kp⟩
  have nd := sc_Disk___init__.nd
  have hu := hu_of hr
  have tk : Takes (cxOf (L2.CX P w) P w K mg base N_Disk___init__ "Disk.__init__" (defScope s_Disk___init__) (He.ma K (He.ga K "Disk") "__init__") cdv A outer s H E) (WE1 E) := takes_of rfl rfl rfl rfl
  exact ⟨t_Disk___init__ K (WE1 E), asSs (pss_cons (ps_if (pt_not (pt_chain op_le op_le (pe_gint T.i_LEAST) (pv 1) (pe_gint T.i_MOST))) (pss_one (ps_raiseW rfl tk T.e_TooGreat)) pss_nil)
    (pss_cons (ps_fld (pv 0) (pe_op op_rep (pe_lst (pa_cons (pe_op op_repT (pe_tup (pa_cons pe_int pa_nil)) (pe_gint T.i_SIZE)) pa_nil)) (pv 1)) rfl)
    (pss_one (ps_fld (pv 0) (pe_lst pa_nil) rfl)))) rfl, pure_Disk___init__ T.x_Disk h⟩
theorem ok_Disk_write {P : Program} {w : World} {K : PySem.W.Frag} {mg : Str → Option Value} {base : Heap} (T : Tx K mg) : Ct_Disk_write P w K mg base := by
  obtain ⟨fd, F⟩ := T.d_Disk_write
  refine ⟨fd, FunD.ok F sc_Disk_write (fun vs H Q E h => len_Disk_write h) (fun cdv A outer s H vs Q E hr h => ?_), FunD.bindsN F fun _ _ _ _ _ _ us hl => match us, hl with | [_, _, _], _ => rfl, F.kp⟩
  have nd := sc_Disk_write.nd
  have hu := hu_of hr
  have tk : Takes (cxOf (L2.CX P w) P w K mg base N_Disk_write "Disk.write" (defScope s_Disk_write) (He.ma K (He.ga K "Disk") "write") cdv A outer s H E) (WE1 E) := takes_of rfl rfl rfl rfl
  exact ⟨t_Disk_write K (WE1 E), asSs (pss_cons (ps_asg (pv 2) (pg_sub (pe_fld (pv 0) rfl) (pv 1) set_list))
    (pss_one (ps_expr (pe_bm PySem.F.plainAttrs_list PySem.F.slot_list_append PySem.F.type_list_append mt_append (pe_fld (pv 0) rfl) (pa_cons (pe_tup (pa_cons pe_str (pa_cons (pv 1) (pa_cons (pv 2) pa_nil)))) pa_nil))))) rfl, pure_Disk_write T.x_Disk h⟩
theorem ok_Disk_barrier {P : Program} {w : World} {K : PySem.W.Frag} {mg : Str → Option Value} {base : Heap} (T : Tx K mg) : Ct_Disk_barrier P w K mg base := by
  obtain ⟨fd, F⟩ := T.d_Disk_barrier
  refine ⟨fd, FunD.ok F sc_Disk_barrier (fun vs H Q E h => len_Disk_barrier h) (fun cdv A outer s H vs Q E hr h => ?_), FunD.bindsN F fun _ _ _ _ _ _ us hl => match us, hl with | [_], _ => rfl, F.kp⟩
  have nd := sc_Disk_barrier.nd
  have hu := hu_of hr
  have tk : Takes (cxOf (L2.CX P w) P w K mg base N_Disk_barrier "Disk.barrier" (defScope s_Disk_barrier) (He.ma K (He.ga K "Disk") "barrier") cdv A outer s H E) (WE1 E) := takes_of rfl rfl rfl rfl
  exact ⟨t_Disk_barrier K (WE1 E), asSs (pss_one (ps_expr (pe_bm PySem.F.plainAttrs_list PySem.F.slot_list_append PySem.F.type_list_append mt_append (pe_fld (pv 0) rfl) (pa_cons (pe_tup (pa_cons pe_str pa_nil)) pa_nil)))) rfl, pure_Disk_barrier T.x_Disk h⟩
theorem ok_many_blocks {P : Program} {w : World} {K : PySem.W.Frag} {mg : Str → Option Value} {base : Heap} (T : Tx K mg) : Ct_many_blocks P w K mg base := by
  obtain ⟨fd, F⟩ := T.d_many_blocks
  refine ⟨fd, FunD.ok F sc_many_blocks (fun vs H Q E h => len_many_blocks h) (fun cdv A outer s H vs Q E hr h => ?_), FunD.bindsN F fun _ _ _ _ _ _ us hl => match us, hl with | [_], _ => rfl, F.kp⟩
  have nd := sc_many_blocks.nd
  have hu := hu_of hr
  have tk : Takes (cxOf (L2.CX P w) P w K mg base N_many_blocks "many_blocks" (defScope s_many_blocks) (He.ga K "many_blocks") cdv A outer s H E) (WE1 E) := takes_of rfl rfl rfl rfl
  exact ⟨t_many_blocks K (WE1 E), asSs (pss_one (ps_ret (pe_op op_fdiv (pe_op op_sub (pe_op op_add (pe_callB call_lenQn (by rfl) T.b_len (by decide +kernel) (pa_cons (pv 0) pa_nil)) (pe_gint T.i_PAYLOAD)) pe_int) (pe_gint T.i_PAYLOAD)))) rfl, pure_many_blocks h⟩
theorem ok_padded {P : Program} {w : World} {K : PySem.W.Frag} {mg : Str → Option Value} {base : Heap} (T : Tx K mg) : Ct_padded P w K mg base := by
  obtain ⟨fd, F⟩ := T.d_padded
  refine ⟨fd, FunD.ok F sc_padded (fun vs H Q E h => len_padded h) (fun cdv A outer s H vs Q E hr h => ?_), FunD.bindsN F fun _ _ _ _ _ _ us hl => match us, hl with | [_], _ => rfl, F.kp⟩
  have nd := sc_padded.nd
  have hu := hu_of hr
  have tk : Takes (cxOf (L2.CX P w) P w K mg base N_padded "padded" (defScope s_padded) (He.ga K "padded") cdv A outer s H E) (WE1 E) := takes_of rfl rfl rfl rfl
  exact ⟨t_padded K (WE1 E), asSs (pss_one (ps_ret (pe_callTy call_tuplen (by rfl) T.b_tuple (by decide +kernel) (pa_cons (pe_op op_cat (pv 0) (pe_op op_rep (pe_lst (pa_cons pe_int pa_nil)) (pe_op op_sub (pe_gint T.i_SIZE) (pe_callB call_lenQn (by rfl) T.b_len (by decide +kernel) (pa_cons (pv 0) pa_nil))))) pa_nil)))) rfl, pure_padded h⟩
theorem ok_write_chain {P : Program} {w : World} {K : PySem.W.Frag} {mg : Str → Option Value} {base : Heap} (T : Tx K mg) (c_padded : Ct_padded P w K mg base) (c_Disk_write : Ct_Disk_write P w K mg base) : Ct_write_chain P w K mg base := by
  obtain ⟨fd, F⟩ := T.d_write_chain
  obtain ⟨_, G_padded, b_padded, k_padded⟩ := c_padded
  obtain ⟨_, G_Disk_write, b_Disk_write, k_Disk_write⟩ := c_Disk_write
  refine ⟨fd, FunD.ok F sc_write_chain (fun vs H Q E h => len_write_chain h) (fun cdv A outer s H vs Q E hr h => ?_), FunD.bindsN F fun _ _ _ _ _ _ us hl => match us, hl with | [_, _, _], _ => rfl, F.kp⟩
  have nd := sc_write_chain.nd
  have hu := hu_of hr
  have tk : Takes (cxOf (L2.CX P w) P w K mg base N_write_chain "write_chain" (defScope s_write_chain) (He.ga K "write_chain") cdv A outer s H E) (WE1 E) := takes_of rfl rfl rfl rfl
  exact ⟨t_write_chain K (WE1 E), asSs (pss_one (ps_for (passes_of rfl) rfl (pi_range1 rfl T.b_range (pa_cons (pe_callB call_lenQn (by rfl) T.b_len (by decide +kernel) (pa_cons (pv 2) pa_nil)) pa_nil)) (pg_name (i := 3) nd rfl (Or.inl rfl)) (pss_cons (ps_set (i := 4) nd rfl (Or.inl rfl) (pe_slice sl_list (pv 1) (po_some (pe_op op_mul (pv 3) (pe_gint T.i_PAYLOAD))) (po_some (pe_op op_mul (pe_op op_add (pv 3) pe_int) (pe_gint T.i_PAYLOAD)))))
    (pss_cons (ps_set (i := 5) nd rfl (Or.inl rfl) (pe_ix ix_list (pe_op op_cat (pe_slice sl_list (pv 2) (po_some (pe_op op_add (pv 3) pe_int)) po_none) (pe_lst (pa_cons pe_int pa_nil))) pe_int (fun _ _ => rfl)))
    (pss_one (ps_expr (pe_methW (pv 0) T.x_Disk.c T.m_Disk_write G_Disk_write (hr.mono (by decide)) b_Disk_write tk (pa_cons (pe_ix ix_list (pv 2) (pv 3) (fun _ _ => rfl)) (pa_cons (pe_callW G_padded (hr.mono (by decide)) T.g_padded k_padded b_padded tk (pa_cons (pe_op op_cat (pe_lst (pa_cons (pv 5) (pa_cons (pe_callB call_lenQn (by rfl) T.b_len (by decide +kernel) (pa_cons (pv 4) pa_nil)) pa_nil))) (pv 4)) pa_nil)) pa_nil))))))))) rfl, pure_write_chain h⟩
theorem ok_write_root {P : Program} {w : World} {K : PySem.W.Frag} {mg : Str → Option Value} {base : Heap} (T : Tx K mg) (c_padded : Ct_padded P w K mg base) (c_Disk_write : Ct_Disk_write P w K mg base) : Ct_write_root P w K mg base := by
  obtain ⟨fd, F⟩ := T.d_write_root
  obtain ⟨_, G_padded, b_padded, k_padded⟩ := c_padded
  obtain ⟨_, G_Disk_write, b_Disk_write, k_Disk_write⟩ := c_Disk_write
  refine ⟨fd, FunD.ok F sc_write_root (fun vs H Q E h => len_write_root h) (fun cdv A outer s H vs Q E hr h => ?_), FunD.bindsN F fun _ _ _ _ _ _ us hl => match us, hl with | [_, _, _, _], _ => rfl, F.kp⟩
  have nd := sc_write_root.nd
  have hu := hu_of hr
  have tk : Takes (cxOf (L2.CX P w) P w K mg base N_write_root "write_root" (defScope s_write_root) (He.ga K "write_root") cdv A outer s H E) (WE1 E) := takes_of rfl rfl rfl rfl
  exact ⟨t_write_root K (WE1 E), asSs (pss_one (ps_expr (pe_methW (pv 0) T.x_Disk.c T.m_Disk_write G_Disk_write (hr.mono (by decide)) b_Disk_write tk (pa_cons (pv 1) (pa_cons (pe_callW G_padded (hr.mono (by decide)) T.g_padded k_padded b_padded tk (pa_cons (pe_lst (pa_cons (pe_gint T.i_MARK) (pa_cons (pe_op op_mod (pe_op op_fdiv (pv 2) pe_int) pe_int) (pa_cons (pe_op op_mod (pe_op op_fdiv (pv 2) pe_int) pe_int) (pa_cons (pe_op op_mod (pe_op op_fdiv (pv 2) pe_int) pe_int) (pa_cons (pe_op op_mod (pv 2) pe_int) (pa_cons (pv 3) pa_nil))))))) pa_nil)) pa_nil))))) rfl, pure_write_root h⟩
theorem ok_is_name {P : Program} {w : World} {K : PySem.W.Frag} {mg : Str → Option Value} {base : Heap} (T : Tx K mg) : Ct_is_name P w K mg base := by
  obtain ⟨fd, F⟩ := T.d_is_name
  refine ⟨fd, FunD.ok F sc_is_name (fun vs H Q E h => len_is_name h) (fun cdv A outer s H vs Q E hr h => ?_), FunD.bindsN F fun _ _ _ _ _ _ us hl => match us, hl with | [_], _ => rfl, F.kp⟩
  have nd := sc_is_name.nd
  have hu := hu_of hr
  have tk : Takes (cxOf (L2.CX P w) P w K mg base N_is_name "is_name" (defScope s_is_name) (He.ga K "is_name") cdv A outer s H E) (WE1 E) := takes_of rfl rfl rfl rfl
  exact ⟨t_is_name K (WE1 E), asSs (pss_cons (ps_if (PW.pt (pw_or (pt_not (pt_chain op_le op_le pe_int (pe_callB call_lenSn (by rfl) T.b_len (by decide +kernel) (pa_cons (pv 0) pa_nil)) (pe_gint T.i_MOST_NAME))) (pw_or1 (pt_cmpR op_in_seq (pv 0) (pe_tup (pa_cons pe_str (pa_cons pe_str pa_nil))) (by rfl))))) (pss_one (ps_ret pe_bl)) pss_nil)
    (pss_one (ps_ret (pe_callB (cr_all rfl) (by rfl) T.b_all (by decide +kernel) (pa_cons (pe_lc (own := [("sign", 1)]) (g := gName 1) (tt := tYes) (te := uOp rInS (tVar 1) (uC (.str txt_SIGNS))) rfl nd (pi_str (pv 0)) (blkOk_by (N := N_is_name) (sc := defScope s_is_name) (by decide +kernel)) (fun _ _ _ _ _ => pg_name (i := 1) nd rfl (Or.inl rfl)) (fun _ _ _ _ _ => pts_nil) (fun _ _ _ _ _ => asE (pe_cmpR op_inSn (pv 1) (pe_gstr T.z_SIGNS) (by rfl)) rfl)) pa_nil))))) rfl, pure_is_name h⟩
theorem ok_need_name {P : Program} {w : World} {K : PySem.W.Frag} {mg : Str → Option Value} {base : Heap} (T : Tx K mg) (c_is_name : Ct_is_name P w K mg base) : Ct_need_name P w K mg base := by
  obtain ⟨fd, F⟩ := T.d_need_name
  obtain ⟨_, G_is_name, b_is_name, k_is_name⟩ := c_is_name
  refine ⟨fd, FunD.ok F sc_need_name (fun vs H Q E h => len_need_name h) (fun cdv A outer s H vs Q E hr h => ?_), FunD.bindsN F fun _ _ _ _ _ _ us hl => match us, hl with | [_], _ => rfl, F.kp⟩
  have nd := sc_need_name.nd
  have hu := hu_of hr
  have tk : Takes (cxOf (L2.CX P w) P w K mg base N_need_name "need_name" (defScope s_need_name) (He.ga K "need_name") cdv A outer s H E) (WE1 E) := takes_of rfl rfl rfl rfl
  exact ⟨t_need_name K (WE1 E), asSs (pss_one (ps_if (pt_not (pt_val (pe_callW G_is_name (hr.mono (by decide)) T.g_is_name k_is_name b_is_name tk (pa_cons (pv 0) pa_nil)))) (pss_one (ps_raiseW rfl tk T.e_BadName)) pss_nil)) rfl, pure_need_name h⟩
theorem ok_parts {P : Program} {w : World} {K : PySem.W.Frag} {mg : Str → Option Value} {base : Heap} (T : Tx K mg) (c_need_name : Ct_need_name P w K mg base) : Ct_parts P w K mg base := by
  obtain ⟨fd, F⟩ := T.d_parts
  obtain ⟨_, G_need_name, b_need_name, k_need_name⟩ := c_need_name
  refine ⟨fd, FunD.ok F sc_parts (fun vs H Q E h => len_parts h) (fun cdv A outer s H vs Q E hr h => ?_), FunD.bindsN F fun _ _ _ _ _ _ us hl => match us, hl with | [_], _ => rfl, F.kp⟩
  have nd := sc_parts.nd
  have hu := hu_of hr
  have tk : Takes (cxOf (L2.CX P w) P w K mg base N_parts "parts" (defScope s_parts) (He.ga K "parts") cdv A outer s H E) (WE1 E) := takes_of rfl rfl rfl rfl
  exact ⟨t_parts K (WE1 E), asSs (pss_cons (ps_if (pt_cmpR op_eq (pv 0) pe_str (by rfl)) (pss_one (ps_ret (pe_lst pa_nil))) pss_nil)
    (pss_cons (ps_if (PW.pt (pw_or (pt_cmpR op_gt (pe_callB call_lenSn (by rfl) T.b_len (by decide +kernel) (pa_cons (pv 0) pa_nil)) (pe_gint T.i_MOST_PATH) (by rfl)) (pw_or1 (pt_cmpR op_ne (pe_slice sl_str (pv 0) po_none (po_some pe_int)) pe_str (by rfl))))) (pss_one (ps_raiseW rfl tk T.e_BadName)) pss_nil)
    (pss_cons (ps_set (i := 1) nd rfl (Or.inl rfl) (pe_split (pe_slice sl_str (pv 0) (po_some pe_int) po_none) pe_str))
    (pss_cons (ps_for (passes_of rfl) rfl (pi_list (pv 1)) (pg_name (i := 2) nd rfl (Or.inl rfl)) (pss_one (ps_expr (pe_callW G_need_name (hr.mono (by decide)) T.g_need_name k_need_name b_need_name tk (pa_cons (pv 2) pa_nil)))))
    (pss_one (ps_ret (pv 1))))))) rfl, pure_parts h⟩
theorem ok_Thing___init__ {P : Program} {w : World} {K : PySem.W.Frag} {mg : Str → Option Value} {base : Heap} (T : Tx K mg) : Ct_Thing___init__ P w K mg base := by
  obtain ⟨fd, F⟩ := T.d_Thing___init__
  refine ⟨fd, FunD.ok F sc_Thing___init__ (fun vs H Q E h => len_Thing___init__ h) (fun cdv A outer s H vs Q E hr h => ?_), FunD.bindsN F fun _ _ _ _ _ _ us hl => match us, hl with | [_, _, _, _], _ => rfl, F.kp⟩
  have nd := sc_Thing___init__.nd
  have hu := hu_of hr
  have tk : Takes (cxOf (L2.CX P w) P w K mg base N_Thing___init__ "Thing.__init__" (defScope s_Thing___init__) (He.ma K (He.ga K "Thing") "__init__") cdv A outer s H E) (WE1 E) := takes_of rfl rfl rfl rfl
  exact ⟨t_Thing___init__ K (WE1 E), asSs (pss_cons (ps_fld (pv 0) (pv 1) rfl)
    (pss_cons (ps_fld (pv 0) (pe_callTy call_listn (by rfl) T.b_list (by decide +kernel) (pa_cons (pv 2) pa_nil)) rfl)
    (pss_one (ps_fld (pv 0) (pe_callTy call_dictDn (by rfl) T.b_dict (by decide +kernel) (pa_cons (pv 3) pa_nil)) rfl)))) rfl, pure_Thing___init__ T.x_Thing h⟩
theorem ok_fresh {P : Program} {w : World} {K : PySem.W.Frag} {mg : Str → Option Value} {base : Heap} (T : Tx K mg) (c_Thing___init__ : Ct_Thing___init__ P w K mg base) : Ct_fresh P w K mg base := by
  obtain ⟨fd, F⟩ := T.d_fresh
  obtain ⟨_, G_Thing___init__, b_Thing___init__, k_Thing___init__⟩ := c_Thing___init__
  refine ⟨fd, FunD.ok F sc_fresh (fun vs H Q E h => len_fresh h) (fun cdv A outer s H vs Q E hr h => ?_), FunD.bindsN F fun _ _ _ _ _ _ us hl => match us, hl with | [], _ => rfl, F.kp⟩
  have nd := sc_fresh.nd
  have hu := hu_of hr
  have tk : Takes (cxOf (L2.CX P w) P w K mg base N_fresh "fresh" (defScope s_fresh) (He.ga K "fresh") cdv A outer s H E) (WE1 E) := takes_of rfl rfl rfl rfl
  exact ⟨t_fresh K (WE1 E), asSs (pss_one (ps_ret (pe_disp (pps_cons pe_int (pe_makeW T.k_Thing G_Thing___init__ (hr.mono (by decide)) T.g_Thing b_Thing___init__ tk (pa_cons pe_str (pa_cons (pe_lst pa_nil) (pa_cons pe_dnewK pa_nil)))) pps_nil) (by rfl) (by rfl) (fun z => by cases z) (by decide)))) rfl, pure_fresh h⟩
theorem ok_copied {P : Program} {w : World} {K : PySem.W.Frag} {mg : Str → Option Value} {base : Heap} (T : Tx K mg) (c_Thing___init__ : Ct_Thing___init__ P w K mg base) : Ct_copied P w K mg base := by
  obtain ⟨fd, F⟩ := T.d_copied
  obtain ⟨_, G_Thing___init__, b_Thing___init__, k_Thing___init__⟩ := c_Thing___init__
  refine ⟨fd, FunD.ok F sc_copied (fun vs H Q E h => len_copied h) (fun cdv A outer s H vs Q E hr h => ?_), FunD.bindsN F fun _ _ _ _ _ _ us hl => match us, hl with | [_], _ => rfl, F.kp⟩
  have nd := sc_copied.nd
  have hu := hu_of hr
  have tk : Takes (cxOf (L2.CX P w) P w K mg base N_copied "copied" (defScope s_copied) (He.ga K "copied") cdv A outer s H E) (WE1 E) := takes_of rfl rfl rfl rfl
  exact ⟨t_copied K (WE1 E), asSs (pss_cons (ps_set (i := 1) nd rfl (Or.inl rfl) pe_dnewK)
    (pss_cons (ps_lock (ps_for (passes_of rfl) rfl (pi_items (pv 0)) (pg_tup rfl (pgs_cons (pg_name (i := 2) nd rfl (Or.inl rfl)) (pgs_cons (pg_name (i := 3) nd rfl (Or.inl rfl)) pgs_nil))) (pss_one (ps_dput hu (pv 1) (pv 2) (pe_makeW T.k_Thing G_Thing___init__ (hr.mono (by decide)) T.g_Thing b_Thing___init__ tk (pa_cons (pe_fld (pv 3) rfl) (pa_cons (pe_fld (pv 3) rfl) (pa_cons (pe_fld (pv 3) rfl) pa_nil)))) rfl))))
    (pss_one (ps_ret (pv 1))))) rfl, pure_copied T.x_Thing h⟩
theorem ok_size_of {P : Program} {w : World} {K : PySem.W.Frag} {mg : Str → Option Value} {base : Heap} (T : Tx K mg) : Ct_size_of P w K mg base := by
  obtain ⟨fd, F⟩ := T.d_size_of
  refine ⟨fd, FunD.ok F sc_size_of (fun vs H Q E h => len_size_of h) (fun cdv A outer s H vs Q E hr h => ?_), FunD.bindsN F fun _ _ _ _ _ _ us hl => match us, hl with | [_], _ => rfl, F.kp⟩
  have nd := sc_size_of.nd
  have hu := hu_of hr
  have tk : Takes (cxOf (L2.CX P w) P w K mg base N_size_of "size_of" (defScope s_size_of) (He.ga K "size_of") cdv A outer s H E) (WE1 E) := takes_of rfl rfl rfl rfl
  exact ⟨t_size_of K (WE1 E), asSs (pss_cons (ps_if (pt_cmpR op_eq (pe_fld (pv 0) rfl) pe_str (by rfl)) (pss_one (ps_ret (pe_op op_mul (pe_gint T.i_ENTRY) (pe_callB call_lenDn (by rfl) T.b_len (by decide +kernel) (pa_cons (pe_fld (pv 0) rfl) pa_nil))))) pss_nil)
    (pss_one (ps_ret (pe_callB call_lenQn (by rfl) T.b_len (by decide +kernel) (pa_cons (pe_fld (pv 0) rfl) pa_nil))))) rfl, pure_size_of T.x_Thing h⟩
theorem ok_links_of {P : Program} {w : World} {K : PySem.W.Frag} {mg : Str → Option Value} {base : Heap} (T : Tx K mg) : Ct_links_of P w K mg base := by
  obtain ⟨fd, F⟩ := T.d_links_of
  refine ⟨fd, FunD.ok F sc_links_of (fun vs H Q E h => len_links_of h) (fun cdv A outer s H vs Q E hr h => ?_), FunD.bindsN F fun _ _ _ _ _ _ us hl => match us, hl with | [_, _], _ => rfl, F.kp⟩
  have nd := sc_links_of.nd
  have hu := hu_of hr
  have tk : Takes (cxOf (L2.CX P w) P w K mg base N_links_of "links_of" (defScope s_links_of) (He.ga K "links_of") cdv A outer s H E) (WE1 E) := takes_of rfl rfl rfl rfl
  exact ⟨t_links_of K (WE1 E), asSs (pss_cons (ps_if (pt_cmpR op_eq (pe_fld (pe_dget hu (pv 0) (pv 1) (fun _ _ => rfl)) rfl) pe_str (by rfl)) (pss_one (ps_ret pe_int)) pss_nil)
    (pss_one (ps_ret (pe_callB (cr_sum rfl) (by rfl) T.b_sum (by decide +kernel) (pa_cons (pe_lock (pe_lc (own := [("thing", 2)]) (g := gName 2) (tt := tYes) (te := uBM K "list" (rCntI K) (uListVals (uFld K (tVar 2) "entries")) (uCons (tVar 1) uNil)) rfl nd (pi_values (pv 0)) (blkOk_by (N := N_links_of) (sc := defScope s_links_of) (by decide +kernel)) (fun _ _ _ _ _ => pg_name (i := 2) nd rfl (Or.inl rfl)) (fun _ _ _ _ _ => pts_nil) (fun _ _ _ _ _ => asE (pe_bm PySem.F.plainAttrs_list PySem.F.slot_list_count PySem.F.type_list_count mt_lcount (pe_listVals rfl (pe_fld (pv 2) rfl) (by rfl) T.b_list (by decide +kernel)) (pa_cons (pv 1) pa_nil)) rfl))) pa_nil))))) rfl, pure_links_of T.x_Thing h⟩
theorem ok_least_free {P : Program} {w : World} {K : PySem.W.Frag} {mg : Str → Option Value} {base : Heap} (T : Tx K mg) : Ct_least_free P w K mg base := by
  obtain ⟨fd, F⟩ := T.d_least_free
  refine ⟨fd, FunD.ok F sc_least_free (fun vs H Q E h => len_least_free h) (fun cdv A outer s H vs Q E hr h => ?_), FunD.bindsN F fun _ _ _ _ _ _ us hl => match us, hl with | [_], _ => rfl, F.kp⟩
  have nd := sc_least_free.nd
  have hu := hu_of hr
  have tk : Takes (cxOf (L2.CX P w) P w K mg base N_least_free "least_free" (defScope s_least_free) (He.ga K "least_free") cdv A outer s H E) (WE1 E) := takes_of rfl rfl rfl rfl
  exact ⟨t_least_free K (WE1 E), asSs (pss_cons (ps_set (i := 1) nd rfl (Or.inl rfl) pe_int)
    (pss_cons (ps_while (passes_of rfl) (pt_cmp (pc_din hu (pv 1) (pv 0)) (by rfl)) (pss_one (ps_set (i := 1) nd rfl (Or.inl rfl) (pe_op op_add (pv 1) pe_int))))
    (pss_one (ps_ret (pv 1))))) rfl, pure_least_free h⟩
theorem ok_entry_of {P : Program} {w : World} {K : PySem.W.Frag} {mg : Str → Option Value} {base : Heap} (T : Tx K mg) : Ct_entry_of P w K mg base := by
  obtain ⟨fd, F⟩ := T.d_entry_of
  refine ⟨fd, FunD.ok F sc_entry_of (fun vs H Q E h => len_entry_of h) (fun cdv A outer s H vs Q E hr h => ?_), FunD.bindsN F fun _ _ _ _ _ _ us hl => match us, hl with | [_, _, _], _ => rfl, F.kp⟩
  have nd := sc_entry_of.nd
  have hu := hu_of hr
  have tk : Takes (cxOf (L2.CX P w) P w K mg base N_entry_of "entry_of" (defScope s_entry_of) (He.ga K "entry_of") cdv A outer s H E) (WE1 E) := takes_of rfl rfl rfl rfl
  exact ⟨t_entry_of K (WE1 E), asSs (pss_cons (ps_if (pt_cmpR op_ne (pe_fld (pe_dget hu (pv 0) (pv 1) (fun _ _ => rfl)) rfl) pe_str (by rfl)) (pss_one (ps_raiseW rfl tk T.e_NoDirectory)) pss_nil)
    (pss_cons (ps_if (pt_cmp (pc_dnotin hu (pv 2) (pe_fld (pe_dget hu (pv 0) (pv 1) (fun _ _ => rfl)) rfl)) (by rfl)) (pss_one (ps_raiseW rfl tk T.e_NoThing)) pss_nil)
    (pss_one (ps_ret (pe_dget hu (pe_fld (pe_dget hu (pv 0) (pv 1) (fun _ _ => rfl)) rfl) (pv 2) (fun _ _ => rfl)))))) rfl, pure_entry_of T.x_Thing h⟩
theorem ok_walked {P : Program} {w : World} {K : PySem.W.Frag} {mg : Str → Option Value} {base : Heap} (T : Tx K mg) (c_entry_of : Ct_entry_of P w K mg base) : Ct_walked P w K mg base := by
  obtain ⟨fd, F⟩ := T.d_walked
  obtain ⟨_, G_entry_of, b_entry_of, k_entry_of⟩ := c_entry_of
  refine ⟨fd, FunD.ok F sc_walked (fun vs H Q E h => len_walked h) (fun cdv A outer s H vs Q E hr h => ?_), FunD.bindsN F fun _ _ _ _ _ _ us hl => match us, hl with | [_, _], _ => rfl, F.kp⟩
  have nd := sc_walked.nd
  have hu := hu_of hr
  have tk : Takes (cxOf (L2.CX P w) P w K mg base N_walked "walked" (defScope s_walked) (He.ga K "walked") cdv A outer s H E) (WE1 E) := takes_of rfl rfl rfl rfl
  exact ⟨t_walked K (WE1 E), asSs (pss_cons (ps_set (i := 2) nd rfl (Or.inl rfl) pe_int)
    (pss_cons (ps_for (passes_of rfl) rfl (pi_list (pv 1)) (pg_name (i := 3) nd rfl (Or.inl rfl)) (pss_one (ps_set (i := 2) nd rfl (Or.inl rfl) (pe_callW G_entry_of (hr.mono (by decide)) T.g_entry_of k_entry_of b_entry_of tk (pa_cons (pv 0) (pa_cons (pv 2) (pa_cons (pv 3) pa_nil)))))))
    (pss_one (ps_ret (pv 2))))) rfl, pure_walked h⟩
theorem ok_place_of {P : Program} {w : World} {K : PySem.W.Frag} {mg : Str → Option Value} {base : Heap} (T : Tx K mg) (c_walked : Ct_walked P w K mg base) : Ct_place_of P w K mg base := by
  obtain ⟨fd, F⟩ := T.d_place_of
  obtain ⟨_, G_walked, b_walked, k_walked⟩ := c_walked
  refine ⟨fd, FunD.ok F sc_place_of (fun vs H Q E h => len_place_of h) (fun cdv A outer s H vs Q E hr h => ?_), FunD.bindsN F fun _ _ _ _ _ _ us hl => match us, hl with | [_, _], _ => rfl, F.kp⟩
  have nd := sc_place_of.nd
  have hu := hu_of hr
  have tk : Takes (cxOf (L2.CX P w) P w K mg base N_place_of "place_of" (defScope s_place_of) (He.ga K "place_of") cdv A outer s H E) (WE1 E) := takes_of rfl rfl rfl rfl
  exact ⟨t_place_of K (WE1 E), asSs (pss_cons (ps_set (i := 2) nd rfl (Or.inl rfl) (pe_callW G_walked (hr.mono (by decide)) T.g_walked k_walked b_walked tk (pa_cons (pv 0) (pa_cons (pe_slice sl_list (pv 1) po_none (po_some (pe_un un_negn pe_int))) pa_nil))))
    (pss_cons (ps_if (pt_cmpR op_ne (pe_fld (pe_dget hu (pv 0) (pv 2) (fun _ _ => rfl)) rfl) pe_str (by rfl)) (pss_one (ps_raiseW rfl tk T.e_NoDirectory)) pss_nil)
    (pss_one (ps_ret (pv 2))))) rfl, pure_place_of T.x_Thing h⟩
theorem ok_text_bytes {P : Program} {w : World} {K : PySem.W.Frag} {mg : Str → Option Value} {base : Heap} (T : Tx K mg) : Ct_text_bytes P w K mg base := by
  obtain ⟨fd, F⟩ := T.d_text_bytes
  refine ⟨fd, FunD.ok F sc_text_bytes (fun vs H Q E h => len_text_bytes h) (fun cdv A outer s H vs Q E hr h => ?_), FunD.bindsN F fun _ _ _ _ _ _ us hl => match us, hl with | [_], _ => rfl, F.kp⟩
  have nd := sc_text_bytes.nd
  have hu := hu_of hr
  have tk : Takes (cxOf (L2.CX P w) P w K mg base N_text_bytes "text_bytes" (defScope s_text_bytes) (He.ga K "text_bytes") cdv A outer s H E) (WE1 E) := takes_of rfl rfl rfl rfl
  exact ⟨t_text_bytes K (WE1 E), asSs (pss_one (ps_ret (pe_op op_cat (pe_lst (pa_cons (pe_callB call_lenSn (by rfl) T.b_len (by decide +kernel) (pa_cons (pv 0) pa_nil)) pa_nil)) (pe_lc (own := [("sign", 1)]) (g := gName 1) (tt := tYes) (te := uCB cOrd (uCons (tVar 1) uNil)) rfl nd (pi_str (pv 0)) (blkOk_by (N := N_text_bytes) (sc := defScope s_text_bytes) (by decide +kernel)) (fun _ _ _ _ _ => pg_name (i := 1) nd rfl (Or.inl rfl)) (fun _ _ _ _ _ => pts_nil) (fun _ _ _ _ _ => asE (pe_callB call_ordn (by rfl) T.b_ord (by decide +kernel) (pa_cons (pv 1) pa_nil)) rfl))))) rfl, pure_text_bytes h⟩
theorem ok_thing_bytes {P : Program} {w : World} {K : PySem.W.Frag} {mg : Str → Option Value} {base : Heap} (T : Tx K mg) (c_text_bytes : Ct_text_bytes P w K mg base) : Ct_thing_bytes P w K mg base := by
  obtain ⟨fd, F⟩ := T.d_thing_bytes
  obtain ⟨_, G_text_bytes, b_text_bytes, k_text_bytes⟩ := c_text_bytes
  refine ⟨fd, FunD.ok F sc_thing_bytes (fun vs H Q E h => len_thing_bytes h) (fun cdv A outer s H vs Q E hr h => ?_), FunD.bindsN F fun _ _ _ _ _ _ us hl => match us, hl with | [_, _], _ => rfl, F.kp⟩
  have nd := sc_thing_bytes.nd
  have hu := hu_of hr
  have tk : Takes (cxOf (L2.CX P w) P w K mg base N_thing_bytes "thing_bytes" (defScope s_thing_bytes) (He.ga K "thing_bytes") cdv A outer s H E) (WE1 E) := takes_of rfl rfl rfl rfl
  exact ⟨t_thing_bytes K (WE1 E), asSs (pss_cons (ps_if (pt_cmpR op_eq (pe_fld (pv 1) rfl) pe_str (by rfl)) (pss_cons (ps_set (i := 2) nd rfl (Or.inl rfl) (pe_lst (pa_cons (pv 0) (pa_cons pe_int (pa_cons (pe_callB call_lenDn (by rfl) T.b_len (by decide +kernel) (pa_cons (pe_fld (pv 1) rfl) pa_nil)) pa_nil)))))
    (pss_cons (ps_for (passes_of rfl) rfl (pi_list (pe_callB (call_sortedDn rfl) (by rfl) T.b_sorted (by decide +kernel) (pa_cons (pe_fld (pv 1) rfl) pa_nil))) (pg_name (i := 3) nd rfl (Or.inl rfl)) (pss_one (ps_set (i := 2) nd rfl (Or.inl rfl) (pe_op op_cat (pe_op op_cat (pv 2) (pe_lst (pa_cons (pe_dget hu (pe_fld (pv 1) rfl) (pv 3) (fun _ _ => rfl)) pa_nil))) (pe_callW G_text_bytes (hr.mono (by decide)) T.g_text_bytes k_text_bytes b_text_bytes tk (pa_cons (pv 3) pa_nil))))))
    (pss_one (ps_ret (pv 2))))) pss_nil)
    (pss_one (ps_ret (pe_op op_cat (pe_lst (pa_cons (pv 0) (pa_cons pe_int (pa_cons (pe_op op_fdiv (pe_callB call_lenQn (by rfl) T.b_len (by decide +kernel) (pa_cons (pe_fld (pv 1) rfl) pa_nil)) pe_int) (pa_cons (pe_op op_mod (pe_callB call_lenQn (by rfl) T.b_len (by decide +kernel) (pa_cons (pe_fld (pv 1) rfl) pa_nil)) pe_int) pa_nil))))) (pe_fld (pv 1) rfl))))) rfl, pure_thing_bytes T.x_Thing h⟩
theorem ok_state_bytes {P : Program} {w : World} {K : PySem.W.Frag} {mg : Str → Option Value} {base : Heap} (T : Tx K mg) (c_thing_bytes : Ct_thing_bytes P w K mg base) : Ct_state_bytes P w K mg base := by
  obtain ⟨fd, F⟩ := T.d_state_bytes
  obtain ⟨_, G_thing_bytes, b_thing_bytes, k_thing_bytes⟩ := c_thing_bytes
  refine ⟨fd, FunD.ok F sc_state_bytes (fun vs H Q E h => len_state_bytes h) (fun cdv A outer s H vs Q E hr h => ?_), FunD.bindsN F fun _ _ _ _ _ _ us hl => match us, hl with | [_], _ => rfl, F.kp⟩
  have nd := sc_state_bytes.nd
  have hu := hu_of hr
  have tk : Takes (cxOf (L2.CX P w) P w K mg base N_state_bytes "state_bytes" (defScope s_state_bytes) (He.ga K "state_bytes") cdv A outer s H E) (WE1 E) := takes_of rfl rfl rfl rfl
  exact ⟨t_state_bytes K (WE1 E), asSs (pss_cons (ps_set (i := 1) nd rfl (Or.inl rfl) (pe_lst (pa_cons (pe_callB call_lenDn (by rfl) T.b_len (by decide +kernel) (pa_cons (pv 0) pa_nil)) pa_nil)))
    (pss_cons (ps_for (passes_of rfl) rfl (pi_list (pe_callB (call_sortedDIn rfl) (by rfl) T.b_sorted (by decide +kernel) (pa_cons (pv 0) pa_nil))) (pg_name (i := 2) nd rfl (Or.inl rfl)) (pss_one (ps_set (i := 1) nd rfl (Or.inl rfl) (pe_op op_cat (pv 1) (pe_callW G_thing_bytes (hr.mono (by decide)) T.g_thing_bytes k_thing_bytes b_thing_bytes tk (pa_cons (pv 2) (pa_cons (pe_dget hu (pv 0) (pv 2) (fun _ _ => rfl)) pa_nil)))))))
    (pss_one (ps_ret (pv 1))))) rfl, pure_state_bytes h⟩
theorem ok_image {P : Program} {w : World} {K : PySem.W.Frag} {mg : Str → Option Value} {base : Heap} (T : Tx K mg) (c_state_bytes : Ct_state_bytes P w K mg base) (c_text_bytes : Ct_text_bytes P w K mg base) : Ct_image P w K mg base := by
  obtain ⟨fd, F⟩ := T.d_image
  obtain ⟨_, G_state_bytes, b_state_bytes, k_state_bytes⟩ := c_state_bytes
  obtain ⟨_, G_text_bytes, b_text_bytes, k_text_bytes⟩ := c_text_bytes
  refine ⟨fd, FunD.ok F sc_image (fun vs H Q E h => len_image h) (fun cdv A outer s H vs Q E hr h => ?_), FunD.bindsN F fun _ _ _ _ _ _ us hl => match us, hl with | [_, _], _ => rfl, F.kp⟩
  have nd := sc_image.nd
  have hu := hu_of hr
  have tk : Takes (cxOf (L2.CX P w) P w K mg base N_image "image" (defScope s_image) (He.ga K "image") cdv A outer s H E) (WE1 E) := takes_of rfl rfl rfl rfl
  exact ⟨t_image K (WE1 E), asSs (pss_cons (ps_set (i := 2) nd rfl (Or.inl rfl) (pe_op op_cat (pe_lst (pa_cons (pe_callB call_lenDn (by rfl) T.b_len (by decide +kernel) (pa_cons (pv 1) pa_nil)) pa_nil)) (pe_callW G_state_bytes (hr.mono (by decide)) T.g_state_bytes k_state_bytes b_state_bytes tk (pa_cons (pv 0) pa_nil))))
    (pss_cons (ps_for (passes_of rfl) rfl (pi_list (pe_callB (call_sortedDn rfl) (by rfl) T.b_sorted (by decide +kernel) (pa_cons (pv 1) pa_nil))) (pg_name (i := 3) nd rfl (Or.inl rfl)) (pss_one (ps_set (i := 2) nd rfl (Or.inl rfl) (pe_op op_cat (pe_op op_cat (pv 2) (pe_callW G_text_bytes (hr.mono (by decide)) T.g_text_bytes k_text_bytes b_text_bytes tk (pa_cons (pv 3) pa_nil))) (pe_callW G_state_bytes (hr.mono (by decide)) T.g_state_bytes k_state_bytes b_state_bytes tk (pa_cons (pe_dget hu (pv 1) (pv 3) (fun _ _ => rfl)) pa_nil))))))
    (pss_one (ps_ret (pv 2))))) rfl, pure_image h⟩
theorem ok_Files___init__ {P : Program} {w : World} {K : PySem.W.Frag} {mg : Str → Option Value} {base : Heap} (T : Tx K mg) : Ct_Files___init__ P w K mg base := by
  obtain ⟨fd, F⟩ := T.d_Files___init__
  refine ⟨fd, FunD.ok F sc_Files___init__ (fun vs H Q E h => len_Files___init__ h) (fun cdv A outer s H vs Q E hr h => ?_), FunD.bindsN F fun _ _ _ _ _ _ us hl => match us, hl with | [_, _, _, _], _ => rfl, F.kp⟩
  have nd := sc_Files___init__.nd
  have hu := hu_of hr
  have tk : Takes (cxOf (L2.CX P w) P w K mg base N_Files___init__ "Files.__init__" (defScope s_Files___init__) (He.ma K (He.ga K "Files") "__init__") cdv A outer s H E) (WE1 E) := takes_of rfl rfl rfl rfl
  exact ⟨t_Files___init__ K (WE1 E), asSs (pss_cons (ps_fld (pv 0) (pv 1) rfl)
    (pss_cons (ps_fld (pv 0) (pv 2) rfl)
    (pss_cons (ps_fld (pv 0) (pv 3) rfl)
    (pss_cons (ps_fld (pv 0) pe_int rfl)
    (pss_cons (ps_fld (pv 0) pe_int rfl)
    (pss_cons (ps_fld (pv 0) (pe_lst pa_nil) rfl)
    (pss_one (ps_fld (pv 0) pe_bl rfl)))))))) rfl, pure_Files___init__ T.x_Files h⟩
theorem ok_Files_may_write {P : Program} {w : World} {K : PySem.W.Frag} {mg : Str → Option Value} {base : Heap} (T : Tx K mg) : Ct_Files_may_write P w K mg base := by
  obtain ⟨fd, F⟩ := T.d_Files_may_write
  refine ⟨fd, FunD.ok F sc_Files_may_write (fun vs H Q E h => len_Files_may_write h) (fun cdv A outer s H vs Q E hr h => ?_), FunD.bindsN F fun _ _ _ _ _ _ us hl => match us, hl with | [_], _ => rfl, F.kp⟩
  have nd := sc_Files_may_write.nd
  have hu := hu_of hr
  have tk : Takes (cxOf (L2.CX P w) P w K mg base N_Files_may_write "Files.may_write" (defScope s_Files_may_write) (He.ma K (He.ga K "Files") "may_write") cdv A outer s H E) (WE1 E) := takes_of rfl rfl rfl rfl
  exact ⟨t_Files_may_write K (WE1 E), asSs (pss_one (ps_if (pt_cmpR op_isNn (pe_fld (pv 0) rfl) pe_non (by rfl)) (pss_one (ps_raiseW rfl tk T.e_ReadOnly)) pss_nil)) rfl, pure_Files_may_write T.x_Files h⟩
theorem ok_Files_become {P : Program} {w : World} {K : PySem.W.Frag} {mg : Str → Option Value} {base : Heap} (T : Tx K mg) (c_image : Ct_image P w K mg base) (c_many_blocks : Ct_many_blocks P w K mg base) : Ct_Files_become P w K mg base := by
  obtain ⟨fd, F⟩ := T.d_Files_become
  obtain ⟨_, G_image, b_image, k_image⟩ := c_image
  obtain ⟨_, G_many_blocks, b_many_blocks, k_many_blocks⟩ := c_many_blocks
  refine ⟨fd, FunD.ok F sc_Files_become (fun vs H Q E h => len_Files_become h) (fun cdv A outer s H vs Q E hr h => ?_), FunD.bindsN F fun _ _ _ _ _ _ us hl => match us, hl with | [_, _, _], _ => rfl, F.kp⟩
  have nd := sc_Files_become.nd
  have hu := hu_of hr
  have tk : Takes (cxOf (L2.CX P w) P w K mg base N_Files_become "Files.become" (defScope s_Files_become) (He.ma K (He.ga K "Files") "become") cdv A outer s H E) (WE1 E) := takes_of rfl rfl rfl rfl
  exact ⟨t_Files_become K (WE1 E), asSs (pss_cons (ps_if (pt_cmpR op_gt (pe_op op_add (pe_op op_add (pe_callW G_many_blocks (hr.mono (by decide)) T.g_many_blocks k_many_blocks b_many_blocks tk (pa_cons (pe_callW G_image (hr.mono (by decide)) T.g_image k_image b_image tk (pa_cons (pv 1) (pa_cons (pv 2) pa_nil))) pa_nil)) (pe_callB call_lenQn (by rfl) T.b_len (by decide +kernel) (pa_cons (pe_fld (pv 0) rfl) pa_nil))) (pe_gint T.i_FIRST)) (pe_callB call_lenQn (by rfl) T.b_len (by decide +kernel) (pa_cons (pe_fld (pe_fld (pv 0) rfl) rfl) pa_nil)) (by rfl)) (pss_one (ps_raiseW rfl tk T.e_NoRoom)) pss_nil)
    (pss_cons (ps_fld (pv 0) (pv 1) rfl)
    (pss_cons (ps_fld (pv 0) (pv 2) rfl)
    (pss_one (ps_fld (pv 0) pe_bl rfl))))) rfl, pure_Files_become T.x_Disk T.x_Files h⟩
theorem ok_Files_file_at {P : Program} {w : World} {K : PySem.W.Frag} {mg : Str → Option Value} {base : Heap} (T : Tx K mg) : Ct_Files_file_at P w K mg base := by
  obtain ⟨fd, F⟩ := T.d_Files_file_at
  refine ⟨fd, FunD.ok F sc_Files_file_at (fun vs H Q E h => len_Files_file_at h) (fun cdv A outer s H vs Q E hr h => ?_), FunD.bindsN F fun _ _ _ _ _ _ us hl => match us, hl with | [_, _], _ => rfl, F.kp⟩
  have nd := sc_Files_file_at.nd
  have hu := hu_of hr
  have tk : Takes (cxOf (L2.CX P w) P w K mg base N_Files_file_at "Files.file_at" (defScope s_Files_file_at) (He.ma K (He.ga K "Files") "file_at") cdv A outer s H E) (WE1 E) := takes_of rfl rfl rfl rfl
  exact ⟨t_Files_file_at K (WE1 E), asSs (pss_cons (ps_if (pt_cmp (pc_dnotin hu (pv 1) (pe_fld (pv 0) rfl)) (by rfl)) (pss_one (ps_raiseW rfl tk T.e_NoThing)) pss_nil)
    (pss_cons (ps_if (pt_cmpR op_ne (pe_fld (pe_dget hu (pe_fld (pv 0) rfl) (pv 1) (fun _ _ => rfl)) rfl) pe_str (by rfl)) (pss_one (ps_raiseW rfl tk T.e_WrongKind)) pss_nil)
    (pss_one (ps_ret (pe_dget hu (pe_fld (pv 0) rfl) (pv 1) (fun _ _ => rfl)))))) rfl, pure_Files_file_at T.x_Thing T.x_Files h⟩
theorem ok_Files_find {P : Program} {w : World} {K : PySem.W.Frag} {mg : Str → Option Value} {base : Heap} (T : Tx K mg) (c_parts : Ct_parts P w K mg base) (c_walked : Ct_walked P w K mg base) : Ct_Files_find P w K mg base := by
  obtain ⟨fd, F⟩ := T.d_Files_find
  obtain ⟨_, G_parts, b_parts, k_parts⟩ := c_parts
  obtain ⟨_, G_walked, b_walked, k_walked⟩ := c_walked
  refine ⟨fd, FunD.ok F sc_Files_find (fun vs H Q E h => len_Files_find h) (fun cdv A outer s H vs Q E hr h => ?_), FunD.bindsN F fun _ _ _ _ _ _ us hl => match us, hl with | [_, _], _ => rfl, F.kp⟩
  have nd := sc_Files_find.nd
  have hu := hu_of hr
  have tk : Takes (cxOf (L2.CX P w) P w K mg base N_Files_find "Files.find" (defScope s_Files_find) (He.ma K (He.ga K "Files") "find") cdv A outer s H E) (WE1 E) := takes_of rfl rfl rfl rfl
  exact ⟨t_Files_find K (WE1 E), asSs (pss_one (ps_ret (pe_callW G_walked (hr.mono (by decide)) T.g_walked k_walked b_walked tk (pa_cons (pe_fld (pv 0) rfl) (pa_cons (pe_callW G_parts (hr.mono (by decide)) T.g_parts k_parts b_parts tk (pa_cons (pv 1) pa_nil)) pa_nil))))) rfl, pure_Files_find T.x_Files h⟩
theorem ok_Files_place_for {P : Program} {w : World} {K : PySem.W.Frag} {mg : Str → Option Value} {base : Heap} (T : Tx K mg) (c_place_of : Ct_place_of P w K mg base) : Ct_Files_place_for P w K mg base := by
  obtain ⟨fd, F⟩ := T.d_Files_place_for
  obtain ⟨_, G_place_of, b_place_of, k_place_of⟩ := c_place_of
  refine ⟨fd, FunD.ok F sc_Files_place_for (fun vs H Q E h => len_Files_place_for h) (fun cdv A outer s H vs Q E hr h => ?_), FunD.bindsN F fun _ _ _ _ _ _ us hl => match us, hl with | [_, _], _ => rfl, F.kp⟩
  have nd := sc_Files_place_for.nd
  have hu := hu_of hr
  have tk : Takes (cxOf (L2.CX P w) P w K mg base N_Files_place_for "Files.place_for" (defScope s_Files_place_for) (He.ma K (He.ga K "Files") "place_for") cdv A outer s H E) (WE1 E) := takes_of rfl rfl rfl rfl
  exact ⟨t_Files_place_for K (WE1 E), asSs (pss_cons (ps_if (pt_cmpR (op_eqD (Room.units hr)) (pv 1) (pe_lst pa_nil) (by rfl)) (pss_one (ps_raiseW rfl tk T.e_IsThere)) pss_nil)
    (pss_cons (ps_set (i := 2) nd rfl (Or.inl rfl) (pe_callW G_place_of (hr.mono (by decide)) T.g_place_of k_place_of b_place_of tk (pa_cons (pe_fld (pv 0) rfl) (pa_cons (pv 1) pa_nil))))
    (pss_cons (ps_if (pt_cmp (pc_din hu (pe_ix ix_list (pv 1) (pe_un un_negn pe_int) (fun _ _ => rfl)) (pe_fld (pe_dget hu (pe_fld (pv 0) rfl) (pv 2) (fun _ _ => rfl)) rfl)) (by rfl)) (pss_one (ps_raiseW rfl tk T.e_IsThere)) pss_nil)
    (pss_one (ps_ret (pv 2)))))) rfl, pure_Files_place_for T.x_Thing T.x_Files h⟩
theorem ok_Files_make {P : Program} {w : World} {K : PySem.W.Frag} {mg : Str → Option Value} {base : Heap} (T : Tx K mg) (c_Files_may_write : Ct_Files_may_write P w K mg base) (c_parts : Ct_parts P w K mg base) (c_Files_place_for : Ct_Files_place_for P w K mg base) (c_least_free : Ct_least_free P w K mg base) (c_copied : Ct_copied P w K mg base) (c_Thing___init__ : Ct_Thing___init__ P w K mg base) (c_Files_become : Ct_Files_become P w K mg base) : Ct_Files_make P w K mg base := by
  obtain ⟨fd, F⟩ := T.d_Files_make
  obtain ⟨_, G_Files_may_write, b_Files_may_write, k_Files_may_write⟩ := c_Files_may_write
  obtain ⟨_, G_parts, b_parts, k_parts⟩ := c_parts
  obtain ⟨_, G_Files_place_for, b_Files_place_for, k_Files_place_for⟩ := c_Files_place_for
  obtain ⟨_, G_least_free, b_least_free, k_least_free⟩ := c_least_free
  obtain ⟨_, G_copied, b_copied, k_copied⟩ := c_copied
  obtain ⟨_, G_Thing___init__, b_Thing___init__, k_Thing___init__⟩ := c_Thing___init__
  obtain ⟨_, G_Files_become, b_Files_become, k_Files_become⟩ := c_Files_become
  refine ⟨fd, FunD.ok F sc_Files_make (fun vs H Q E h => len_Files_make h) (fun cdv A outer s H vs Q E hr h => ?_), FunD.bindsN F fun _ _ _ _ _ _ us hl => match us, hl with | [_, _, _], _ => rfl, F.kp⟩
  have nd := sc_Files_make.nd
  have hu := hu_of hr
  have tk : Takes (cxOf (L2.CX P w) P w K mg base N_Files_make "Files.make" (defScope s_Files_make) (He.ma K (He.ga K "Files") "make") cdv A outer s H E) (WE1 E) := takes_of rfl rfl rfl rfl
  exact ⟨t_Files_make K (WE1 E), asSs (pss_cons (ps_expr (pe_methW0 (pv 0) T.x_Files.c T.m_Files_may_write G_Files_may_write (hr.mono (by decide)) b_Files_may_write tk))
    (pss_cons (ps_set (i := 3) nd rfl (Or.inl rfl) (pe_callW G_parts (hr.mono (by decide)) T.g_parts k_parts b_parts tk (pa_cons (pv 1) pa_nil)))
    (pss_cons (ps_set (i := 4) nd rfl (Or.inl rfl) (pe_methW (pv 0) T.x_Files.c T.m_Files_place_for G_Files_place_for (hr.mono (by decide)) b_Files_place_for tk (pa_cons (pv 3) pa_nil)))
    (pss_cons (ps_set (i := 5) nd rfl (Or.inl rfl) (pe_callW G_least_free (hr.mono (by decide)) T.g_least_free k_least_free b_least_free tk (pa_cons (pe_fld (pv 0) rfl) pa_nil)))
    (pss_cons (ps_if (PW.pt (pw_or (pt_cmpR op_eq (pv 5) (pe_gint T.i_MOST_THINGS) (by rfl)) (pw_or1 (pt_cmpR op_eq (pe_callB call_lenDn (by rfl) T.b_len (by decide +kernel) (pa_cons (pe_fld (pe_dget hu (pe_fld (pv 0) rfl) (pv 4) (fun _ _ => rfl)) rfl) pa_nil)) (pe_gint T.i_MOST_ENTRIES) (by rfl))))) (pss_one (ps_raiseW rfl tk T.e_TooGreat)) pss_nil)
    (pss_cons (ps_set (i := 6) nd rfl (Or.inl rfl) (pe_callW G_copied (hr.mono (by decide)) T.g_copied k_copied b_copied tk (pa_cons (pe_fld (pv 0) rfl) pa_nil)))
    (pss_cons (ps_dput hu (pv 6) (pv 5) (pe_makeW T.k_Thing G_Thing___init__ (hr.mono (by decide)) T.g_Thing b_Thing___init__ tk (pa_cons (pv 2) (pa_cons (pe_lst pa_nil) (pa_cons pe_dnewK pa_nil)))) rfl)
    (pss_cons (ps_dput hu (pe_fld (pe_dget hu (pv 6) (pv 4) (fun _ _ => rfl)) rfl) (pe_ix ix_list (pv 3) (pe_un un_negn pe_int) (fun _ _ => rfl)) (pv 5) rfl)
    (pss_cons (ps_expr (pe_methW (pv 0) T.x_Files.c T.m_Files_become G_Files_become (hr.mono (by decide)) b_Files_become tk (pa_cons (pv 6) (pa_cons (pe_fld (pv 0) rfl) pa_nil))))
    (pss_one (ps_ret (pv 5)))))))))))) rfl, pure_Files_make T.x_Thing T.x_Files h⟩
theorem ok_Files_link {P : Program} {w : World} {K : PySem.W.Frag} {mg : Str → Option Value} {base : Heap} (T : Tx K mg) (c_Files_may_write : Ct_Files_may_write P w K mg base) (c_parts : Ct_parts P w K mg base) (c_walked : Ct_walked P w K mg base) (c_Files_place_for : Ct_Files_place_for P w K mg base) (c_copied : Ct_copied P w K mg base) (c_Files_become : Ct_Files_become P w K mg base) : Ct_Files_link P w K mg base := by
  obtain ⟨fd, F⟩ := T.d_Files_link
  obtain ⟨_, G_Files_may_write, b_Files_may_write, k_Files_may_write⟩ := c_Files_may_write
  obtain ⟨_, G_parts, b_parts, k_parts⟩ := c_parts
  obtain ⟨_, G_walked, b_walked, k_walked⟩ := c_walked
  obtain ⟨_, G_Files_place_for, b_Files_place_for, k_Files_place_for⟩ := c_Files_place_for
  obtain ⟨_, G_copied, b_copied, k_copied⟩ := c_copied
  obtain ⟨_, G_Files_become, b_Files_become, k_Files_become⟩ := c_Files_become
  refine ⟨fd, FunD.ok F sc_Files_link (fun vs H Q E h => len_Files_link h) (fun cdv A outer s H vs Q E hr h => ?_), FunD.bindsN F fun _ _ _ _ _ _ us hl => match us, hl with | [_, _, _], _ => rfl, F.kp⟩
  have nd := sc_Files_link.nd
  have hu := hu_of hr
  have tk : Takes (cxOf (L2.CX P w) P w K mg base N_Files_link "Files.link" (defScope s_Files_link) (He.ma K (He.ga K "Files") "link") cdv A outer s H E) (WE1 E) := takes_of rfl rfl rfl rfl
  exact ⟨t_Files_link K (WE1 E), asSs (pss_cons (ps_expr (pe_methW0 (pv 0) T.x_Files.c T.m_Files_may_write G_Files_may_write (hr.mono (by decide)) b_Files_may_write tk))
    (pss_cons (ps_set (i := 3) nd rfl (Or.inl rfl) (pe_callW G_parts (hr.mono (by decide)) T.g_parts k_parts b_parts tk (pa_cons (pv 1) pa_nil)))
    (pss_cons (ps_set (i := 4) nd rfl (Or.inl rfl) (pe_callW G_parts (hr.mono (by decide)) T.g_parts k_parts b_parts tk (pa_cons (pv 2) pa_nil)))
    (pss_cons (ps_set (i := 5) nd rfl (Or.inl rfl) (pe_callW G_walked (hr.mono (by decide)) T.g_walked k_walked b_walked tk (pa_cons (pe_fld (pv 0) rfl) (pa_cons (pv 3) pa_nil))))
    (pss_cons (ps_if (pt_cmpR op_eq (pe_fld (pe_dget hu (pe_fld (pv 0) rfl) (pv 5) (fun _ _ => rfl)) rfl) pe_str (by rfl)) (pss_one (ps_raiseW rfl tk T.e_WrongKind)) pss_nil)
    (pss_cons (ps_set (i := 6) nd rfl (Or.inl rfl) (pe_methW (pv 0) T.x_Files.c T.m_Files_place_for G_Files_place_for (hr.mono (by decide)) b_Files_place_for tk (pa_cons (pv 4) pa_nil)))
    (pss_cons (ps_if (pt_cmpR op_eq (pe_callB call_lenDn (by rfl) T.b_len (by decide +kernel) (pa_cons (pe_fld (pe_dget hu (pe_fld (pv 0) rfl) (pv 6) (fun _ _ => rfl)) rfl) pa_nil)) (pe_gint T.i_MOST_ENTRIES) (by rfl)) (pss_one (ps_raiseW rfl tk T.e_TooGreat)) pss_nil)
    (pss_cons (ps_set (i := 7) nd rfl (Or.inl rfl) (pe_callW G_copied (hr.mono (by decide)) T.g_copied k_copied b_copied tk (pa_cons (pe_fld (pv 0) rfl) pa_nil)))
    (pss_cons (ps_dput hu (pe_fld (pe_dget hu (pv 7) (pv 6) (fun _ _ => rfl)) rfl) (pe_ix ix_list (pv 4) (pe_un un_negn pe_int) (fun _ _ => rfl)) (pv 5) rfl)
    (pss_one (ps_expr (pe_methW (pv 0) T.x_Files.c T.m_Files_become G_Files_become (hr.mono (by decide)) b_Files_become tk (pa_cons (pv 7) (pa_cons (pe_fld (pv 0) rfl) pa_nil)))))))))))))) rfl, pure_Files_link T.x_Thing T.x_Files h⟩
theorem ok_Files_read {P : Program} {w : World} {K : PySem.W.Frag} {mg : Str → Option Value} {base : Heap} (T : Tx K mg) (c_Files_file_at : Ct_Files_file_at P w K mg base) : Ct_Files_read P w K mg base := by
  obtain ⟨fd, F⟩ := T.d_Files_read
  obtain ⟨_, G_Files_file_at, b_Files_file_at, k_Files_file_at⟩ := c_Files_file_at
  refine ⟨fd, FunD.ok F sc_Files_read (fun vs H Q E h => len_Files_read h) (fun cdv A outer s H vs Q E hr h => ?_), FunD.bindsN F fun _ _ _ _ _ _ us hl => match us, hl with | [_, _, _, _], _ => rfl, F.kp⟩
  have nd := sc_Files_read.nd
  have hu := hu_of hr
  have tk : Takes (cxOf (L2.CX P w) P w K mg base N_Files_read "Files.read" (defScope s_Files_read) (He.ma K (He.ga K "Files") "read") cdv A outer s H E) (WE1 E) := takes_of rfl rfl rfl rfl
  exact ⟨t_Files_read K (WE1 E), asSs (pss_one (ps_ret (pe_slice sl_list (pe_fld (pe_methW (pv 0) T.x_Files.c T.m_Files_file_at G_Files_file_at (hr.mono (by decide)) b_Files_file_at tk (pa_cons (pv 1) pa_nil)) rfl) (po_some (pv 2)) (po_some (pe_op op_add (pv 2) (pv 3)))))) rfl, pure_Files_read T.x_Thing h⟩
theorem ok_Files_write {P : Program} {w : World} {K : PySem.W.Frag} {mg : Str → Option Value} {base : Heap} (T : Tx K mg) (c_Files_may_write : Ct_Files_may_write P w K mg base) (c_Files_file_at : Ct_Files_file_at P w K mg base) (c_copied : Ct_copied P w K mg base) (c_Thing___init__ : Ct_Thing___init__ P w K mg base) (c_Files_become : Ct_Files_become P w K mg base) : Ct_Files_write P w K mg base := by
  obtain ⟨fd, F⟩ := T.d_Files_write
  obtain ⟨_, G_Files_may_write, b_Files_may_write, k_Files_may_write⟩ := c_Files_may_write
  obtain ⟨_, G_Files_file_at, b_Files_file_at, k_Files_file_at⟩ := c_Files_file_at
  obtain ⟨_, G_copied, b_copied, k_copied⟩ := c_copied
  obtain ⟨_, G_Thing___init__, b_Thing___init__, k_Thing___init__⟩ := c_Thing___init__
  obtain ⟨_, G_Files_become, b_Files_become, k_Files_become⟩ := c_Files_become
  refine ⟨fd, FunD.ok F sc_Files_write (fun vs H Q E h => len_Files_write h) (fun cdv A outer s H vs Q E hr h => ?_), FunD.bindsN F fun _ _ _ _ _ _ us hl => match us, hl with | [_, _, _, _], _ => rfl, F.kp⟩
  have nd := sc_Files_write.nd
  have hu := hu_of hr
  have tk : Takes (cxOf (L2.CX P w) P w K mg base N_Files_write "Files.write" (defScope s_Files_write) (He.ma K (He.ga K "Files") "write") cdv A outer s H E) (WE1 E) := takes_of rfl rfl rfl rfl
  exact ⟨t_Files_write K (WE1 E), asSs (pss_cons (ps_expr (pe_methW0 (pv 0) T.x_Files.c T.m_Files_may_write G_Files_may_write (hr.mono (by decide)) b_Files_may_write tk))
    (pss_cons (ps_set (i := 4) nd rfl (Or.inl rfl) (pe_fld (pe_methW (pv 0) T.x_Files.c T.m_Files_file_at G_Files_file_at (hr.mono (by decide)) b_Files_file_at tk (pa_cons (pv 1) pa_nil)) rfl))
    (pss_cons (ps_if (pt_cmpR op_gt (pe_op op_add (pv 2) (pe_callB call_lenQn (by rfl) T.b_len (by decide +kernel) (pa_cons (pv 3) pa_nil))) (pe_gint T.i_MOST_SIZE) (by rfl)) (pss_one (ps_raiseW rfl tk T.e_TooGreat)) pss_nil)
    (pss_cons (ps_if (pt_cmpR op_gt (pe_callB call_lenQn (by rfl) T.b_len (by decide +kernel) (pa_cons (pv 3) pa_nil)) pe_int (by rfl)) (pss_cons (ps_set (i := 5) nd rfl (Or.inl rfl) (pe_op op_cat (pv 4) (pe_op op_rep (pe_lst (pa_cons pe_int pa_nil)) (pe_op op_sub (pv 2) (pe_callB call_lenQn (by rfl) T.b_len (by decide +kernel) (pa_cons (pv 4) pa_nil))))))
    (pss_cons (ps_set (i := 6) nd rfl (Or.inl rfl) (pe_callW G_copied (hr.mono (by decide)) T.g_copied k_copied b_copied tk (pa_cons (pe_fld (pv 0) rfl) pa_nil)))
    (pss_cons (ps_dput hu (pv 6) (pv 1) (pe_makeW T.k_Thing G_Thing___init__ (hr.mono (by decide)) T.g_Thing b_Thing___init__ tk (pa_cons pe_str (pa_cons (pe_op op_cat (pe_op op_cat (pe_slice sl_list (pv 5) po_none (po_some (pv 2))) (pe_callTy call_listn (by rfl) T.b_list (by decide +kernel) (pa_cons (pv 3) pa_nil))) (pe_slice sl_list (pv 5) (po_some (pe_op op_add (pv 2) (pe_callB call_lenQn (by rfl) T.b_len (by decide +kernel) (pa_cons (pv 3) pa_nil)))) po_none)) (pa_cons pe_dnewK pa_nil)))) rfl)
    (pss_one (ps_expr (pe_methW (pv 0) T.x_Files.c T.m_Files_become G_Files_become (hr.mono (by decide)) b_Files_become tk (pa_cons (pv 6) (pa_cons (pe_fld (pv 0) rfl) pa_nil)))))))) pss_nil)
    (pss_one (ps_ret (pe_callB call_lenQn (by rfl) T.b_len (by decide +kernel) (pa_cons (pv 3) pa_nil)))))))) rfl, pure_Files_write T.x_Thing T.x_Files h⟩
theorem ok_Files_cut {P : Program} {w : World} {K : PySem.W.Frag} {mg : Str → Option Value} {base : Heap} (T : Tx K mg) (c_Files_may_write : Ct_Files_may_write P w K mg base) (c_Files_file_at : Ct_Files_file_at P w K mg base) (c_copied : Ct_copied P w K mg base) (c_Thing___init__ : Ct_Thing___init__ P w K mg base) (c_Files_become : Ct_Files_become P w K mg base) : Ct_Files_cut P w K mg base := by
  obtain ⟨fd, F⟩ := T.d_Files_cut
  obtain ⟨_, G_Files_may_write, b_Files_may_write, k_Files_may_write⟩ := c_Files_may_write
  obtain ⟨_, G_Files_file_at, b_Files_file_at, k_Files_file_at⟩ := c_Files_file_at
  obtain ⟨_, G_copied, b_copied, k_copied⟩ := c_copied
  obtain ⟨_, G_Thing___init__, b_Thing___init__, k_Thing___init__⟩ := c_Thing___init__
  obtain ⟨_, G_Files_become, b_Files_become, k_Files_become⟩ := c_Files_become
  refine ⟨fd, FunD.ok F sc_Files_cut (fun vs H Q E h => len_Files_cut h) (fun cdv A outer s H vs Q E hr h => ?_), FunD.bindsN F fun _ _ _ _ _ _ us hl => match us, hl with | [_, _, _], _ => rfl, F.kp⟩
  have nd := sc_Files_cut.nd
  have hu := hu_of hr
  have tk : Takes (cxOf (L2.CX P w) P w K mg base N_Files_cut "Files.cut" (defScope s_Files_cut) (He.ma K (He.ga K "Files") "cut") cdv A outer s H E) (WE1 E) := takes_of rfl rfl rfl rfl
  exact ⟨t_Files_cut K (WE1 E), asSs (pss_cons (ps_expr (pe_methW0 (pv 0) T.x_Files.c T.m_Files_may_write G_Files_may_write (hr.mono (by decide)) b_Files_may_write tk))
    (pss_cons (ps_set (i := 3) nd rfl (Or.inl rfl) (pe_fld (pe_methW (pv 0) T.x_Files.c T.m_Files_file_at G_Files_file_at (hr.mono (by decide)) b_Files_file_at tk (pa_cons (pv 1) pa_nil)) rfl))
    (pss_cons (ps_if (pt_cmpR op_gt (pv 2) (pe_gint T.i_MOST_SIZE) (by rfl)) (pss_one (ps_raiseW rfl tk T.e_TooGreat)) pss_nil)
    (pss_cons (ps_set (i := 4) nd rfl (Or.inl rfl) (pe_callW G_copied (hr.mono (by decide)) T.g_copied k_copied b_copied tk (pa_cons (pe_fld (pv 0) rfl) pa_nil)))
    (pss_cons (ps_dput hu (pv 4) (pv 1) (pe_makeW T.k_Thing G_Thing___init__ (hr.mono (by decide)) T.g_Thing b_Thing___init__ tk (pa_cons pe_str (pa_cons (pe_op op_cat (pe_slice sl_list (pv 3) po_none (po_some (pv 2))) (pe_op op_rep (pe_lst (pa_cons pe_int pa_nil)) (pe_op op_sub (pv 2) (pe_callB call_lenQn (by rfl) T.b_len (by decide +kernel) (pa_cons (pv 3) pa_nil))))) (pa_cons pe_dnewK pa_nil)))) rfl)
    (pss_one (ps_expr (pe_methW (pv 0) T.x_Files.c T.m_Files_become G_Files_become (hr.mono (by decide)) b_Files_become tk (pa_cons (pv 4) (pa_cons (pe_fld (pv 0) rfl) pa_nil)))))))))) rfl, pure_Files_cut T.x_Thing T.x_Files h⟩
theorem ok_Files_stat {P : Program} {w : World} {K : PySem.W.Frag} {mg : Str → Option Value} {base : Heap} (T : Tx K mg) (c_links_of : Ct_links_of P w K mg base) (c_size_of : Ct_size_of P w K mg base) : Ct_Files_stat P w K mg base := by
  obtain ⟨fd, F⟩ := T.d_Files_stat
  obtain ⟨_, G_links_of, b_links_of, k_links_of⟩ := c_links_of
  obtain ⟨_, G_size_of, b_size_of, k_size_of⟩ := c_size_of
  refine ⟨fd, FunD.ok F sc_Files_stat (fun vs H Q E h => len_Files_stat h) (fun cdv A outer s H vs Q E hr h => ?_), FunD.bindsN F fun _ _ _ _ _ _ us hl => match us, hl with | [_, _], _ => rfl, F.kp⟩
  have nd := sc_Files_stat.nd
  have hu := hu_of hr
  have tk : Takes (cxOf (L2.CX P w) P w K mg base N_Files_stat "Files.stat" (defScope s_Files_stat) (He.ma K (He.ga K "Files") "stat") cdv A outer s H E) (WE1 E) := takes_of rfl rfl rfl rfl
  exact ⟨t_Files_stat K (WE1 E), asSs (pss_cons (ps_if (pt_cmp (pc_dnotin hu (pv 1) (pe_fld (pv 0) rfl)) (by rfl)) (pss_one (ps_raiseW rfl tk T.e_NoThing)) pss_nil)
    (pss_cons (ps_set (i := 2) nd rfl (Or.inl rfl) (pe_dget hu (pe_fld (pv 0) rfl) (pv 1) (fun _ _ => rfl)))
    (pss_one (ps_ret (pe_tup (pa_cons (pe_fld (pv 2) rfl) (pa_cons (pe_callW G_links_of (hr.mono (by decide)) T.g_links_of k_links_of b_links_of tk (pa_cons (pe_fld (pv 0) rfl) (pa_cons (pv 1) pa_nil))) (pa_cons (pe_callW G_size_of (hr.mono (by decide)) T.g_size_of k_size_of b_size_of tk (pa_cons (pv 2) pa_nil)) pa_nil)))))))) rfl, pure_Files_stat T.x_Thing T.x_Files h⟩
theorem ok_formatted {P : Program} {w : World} {K : PySem.W.Frag} {mg : Str → Option Value} {base : Heap} (T : Tx K mg) (c_fresh : Ct_fresh P w K mg base) (c_Files___init__ : Ct_Files___init__ P w K mg base) (c_image : Ct_image P w K mg base) (c_write_chain : Ct_write_chain P w K mg base) (c_write_root : Ct_write_root P w K mg base) (c_padded : Ct_padded P w K mg base) (c_Disk_write : Ct_Disk_write P w K mg base) (c_Disk_barrier : Ct_Disk_barrier P w K mg base) : Ct_formatted P w K mg base := by
  obtain ⟨fd, F⟩ := T.d_formatted
  obtain ⟨_, G_fresh, b_fresh, k_fresh⟩ := c_fresh
  obtain ⟨_, G_Files___init__, b_Files___init__, k_Files___init__⟩ := c_Files___init__
  obtain ⟨_, G_image, b_image, k_image⟩ := c_image
  obtain ⟨_, G_write_chain, b_write_chain, k_write_chain⟩ := c_write_chain
  obtain ⟨_, G_write_root, b_write_root, k_write_root⟩ := c_write_root
  obtain ⟨_, G_padded, b_padded, k_padded⟩ := c_padded
  obtain ⟨_, G_Disk_write, b_Disk_write, k_Disk_write⟩ := c_Disk_write
  obtain ⟨_, G_Disk_barrier, b_Disk_barrier, k_Disk_barrier⟩ := c_Disk_barrier
  refine ⟨fd, FunD.ok F sc_formatted (fun vs H Q E h => len_formatted h) (fun cdv A outer s H vs Q E hr h => ?_), FunD.bindsN F fun _ _ _ _ _ _ us hl => match us, hl with | [_], _ => rfl, F.kp⟩
  have nd := sc_formatted.nd
  have hu := hu_of hr
  have tk : Takes (cxOf (L2.CX P w) P w K mg base N_formatted "formatted" (defScope s_formatted) (He.ga K "formatted") cdv A outer s H E) (WE1 E) := takes_of rfl rfl rfl rfl
  exact ⟨t_formatted K (WE1 E), asSs (pss_cons (ps_set (i := 1) nd rfl (Or.inl rfl) (pe_makeW T.k_Files G_Files___init__ (hr.mono (by decide)) T.g_Files b_Files___init__ tk (pa_cons (pv 0) (pa_cons (pe_callW0 G_fresh (hr.mono (by decide)) T.g_fresh k_fresh b_fresh tk) (pa_cons pe_dnewK pa_nil)))))
    (pss_cons (ps_set (i := 2) nd rfl (Or.inl rfl) (pe_callW G_image (hr.mono (by decide)) T.g_image k_image b_image tk (pa_cons (pe_fld (pv 1) rfl) (pa_cons (pe_fld (pv 1) rfl) pa_nil))))
    (pss_cons (ps_expr (pe_callW G_write_chain (hr.mono (by decide)) T.g_write_chain k_write_chain b_write_chain tk (pa_cons (pv 0) (pa_cons (pv 2) (pa_cons (pe_lst (pa_cons (pe_gint T.i_FIRST) pa_nil)) pa_nil)))))
    (pss_cons (ps_expr (pe_callW G_write_root (hr.mono (by decide)) T.g_write_root k_write_root b_write_root tk (pa_cons (pv 0) (pa_cons pe_int (pa_cons pe_int (pa_cons (pe_gint T.i_FIRST) pa_nil))))))
    (pss_cons (ps_expr (pe_methW (pv 0) T.x_Disk.c T.m_Disk_write G_Disk_write (hr.mono (by decide)) b_Disk_write tk (pa_cons pe_int (pa_cons (pe_callW G_padded (hr.mono (by decide)) T.g_padded k_padded b_padded tk (pa_cons (pe_lst pa_nil) pa_nil)) pa_nil))))
    (pss_cons (ps_expr (pe_methW0 (pv 0) T.x_Disk.c T.m_Disk_barrier G_Disk_barrier (hr.mono (by decide)) b_Disk_barrier tk))
    (pss_cons (ps_fld (pv 1) (pe_lst (pa_cons (pe_gint T.i_FIRST) pa_nil)) rfl)
    (pss_one (ps_ret (pv 1)))))))))) rfl, pure_formatted T.x_Files h⟩
theorem ok__law_cell {P : Program} {w : World} {K : PySem.W.Frag} {mg : Str → Option Value} {base : Heap} (T : Tx K mg) : Ct__law_cell P w K mg base := by
  obtain ⟨fd, F⟩ := T.d__law_cell
  refine ⟨fd, FunD.ok F sc__law_cell (fun vs H Q E h => len__law_cell h) (fun cdv A outer s H vs Q E hr h => ?_), FunD.bindsN F fun _ _ _ _ _ _ us hl => match us, hl with | [_, _], _ => rfl, F.kp⟩
  have nd := sc__law_cell.nd
  have hu := hu_of hr
  have tk : Takes (cxOf (L2.CX P w) P w K mg base N__law_cell "_law_cell" (defScope s__law_cell) (He.ga K "_law_cell") cdv A outer s H E) (WE1 E) := takes_of rfl rfl rfl rfl
  exact ⟨t__law_cell K (WE1 E), asSs (pss_cons (ps_if (pt_cmpR (op_eqD (Room.units hr)) (pv 0) (pe_lst pa_nil) (by rfl)) (pss_one (ps_ret (pe_op op_mul (pv 1) pe_int))) pss_nil)
    (pss_one (ps_ret (pe_op op_add (pe_ix ix_list (pv 0) (pe_op op_mod (pv 1) (pe_callB call_lenQn (by rfl) T.b_len (by decide +kernel) (pa_cons (pv 0) pa_nil))) (fun _ _ => rfl)) (pe_op op_mul (pe_op op_fdiv (pv 1) (pe_callB call_lenQn (by rfl) T.b_len (by decide +kernel) (pa_cons (pv 0) pa_nil))) pe_int))))) rfl, pure__law_cell h⟩
theorem ok__law_drawn {P : Program} {w : World} {K : PySem.W.Frag} {mg : Str → Option Value} {base : Heap} (T : Tx K mg) : Ct__law_drawn P w K mg base := by
  obtain ⟨fd, F⟩ := T.d__law_drawn
  refine ⟨fd, FunD.ok F sc__law_drawn (fun vs H Q E h => len__law_drawn h) (fun cdv A outer s H vs Q E hr h => ?_), FunD.bindsN F fun _ _ _ _ _ _ us hl => match us, hl with | [_, _], _ => rfl, F.kp⟩
  have nd := sc__law_drawn.nd
  have hu := hu_of hr
  have tk : Takes (cxOf (L2.CX P w) P w K mg base N__law_drawn "_law_drawn" (defScope s__law_drawn) (He.ga K "_law_drawn") cdv A outer s H E) (WE1 E) := takes_of rfl rfl rfl rfl
  exact ⟨t__law_drawn K (WE1 E), asSs (pss_cons (ps_set (i := 2) nd rfl (Or.inl rfl) (pe_op op_mod (pe_op op_add (pe_op op_mul (pv 0) pe_int) (pe_op op_mul (pe_op op_add (pv 1) pe_int) pe_int)) pe_int))
    (pss_one (ps_ret (pe_op op_mod (pe_op op_mulW (pv 2) (pv 2)) pe_int)))) rfl, pure__law_drawn h⟩
theorem ok__law_word {P : Program} {w : World} {K : PySem.W.Frag} {mg : Str → Option Value} {base : Heap} (T : Tx K mg) : Ct__law_word P w K mg base := by
  obtain ⟨fd, F⟩ := T.d__law_word
  refine ⟨fd, fn_ofP F sc__law_word (fun p vs H Q E h => len__law_word h) (fun cdv A outer s H vs Q E p hr h => ?_), FunD.bindsN F fun _ _ _ _ _ _ us hl => match us, hl with | [_], _ => rfl, F.kp⟩
  have nd := sc__law_word.nd
  obtain ⟨d, hd, rfl, hz, hf, q⟩ := h
  have xc := T.x10.exc d hd
  have hp1 : p ∈ (cxH (L2.CX P w) P w K mg base N__law_word "_law_word" (defScope s__law_word) (He.ga K "_law_word") cdv A outer s H E p).pn := List.mem_cons_self
  refine ⟨_, pss_cons (ps_set (i := 1) nd rfl (Or.inl rfl) (pe_lst (pa_cons (pe_callB (call_isP xc hz hf hp1) (by rfl) T.b_isinstance (by decide +kernel) (pa_cons (pv 0) (pa_cons (pe_gref T.g_NoThing) pa_nil))) (pa_cons (pe_callB (call_isP xc hz hf hp1) (by rfl) T.b_isinstance (by decide +kernel) (pa_cons (pv 0) (pa_cons (pe_gref T.g_NoDirectory) pa_nil))) (pa_cons (pe_callB (call_isP xc hz hf hp1) (by rfl) T.b_isinstance (by decide +kernel) (pa_cons (pv 0) (pa_cons (pe_gref T.g_BadName) pa_nil))) (pa_cons (pe_callB (call_isP xc hz hf hp1) (by rfl) T.b_isinstance (by decide +kernel) (pa_cons (pv 0) (pa_cons (pe_gref T.g_IsThere) pa_nil))) pa_nil))))))
    (pss_cons (ps_set (i := 1) nd rfl (Or.inl rfl) (pe_op op_cat (pv 1) (pe_lst (pa_cons (pe_callB (call_isP xc hz hf hp1) (by rfl) T.b_isinstance (by decide +kernel) (pa_cons (pv 0) (pa_cons (pe_gref T.g_NoRoom) pa_nil))) (pa_cons (pe_callB (call_isP xc hz hf hp1) (by rfl) T.b_isinstance (by decide +kernel) (pa_cons (pv 0) (pa_cons (pe_gref T.g_NotEmpty) pa_nil))) (pa_cons (pe_callB (call_isP xc hz hf hp1) (by rfl) T.b_isinstance (by decide +kernel) (pa_cons (pv 0) (pa_cons (pe_gref T.g_WrongKind) pa_nil))) pa_nil))))))
    (pss_cons (ps_set (i := 1) nd rfl (Or.inl rfl) (pe_op op_cat (pv 1) (pe_lst (pa_cons (pe_callB (call_isP xc hz hf hp1) (by rfl) T.b_isinstance (by decide +kernel) (pa_cons (pv 0) (pa_cons (pe_gref T.g_TooGreat) pa_nil))) (pa_cons (pe_callB (call_isP xc hz hf hp1) (by rfl) T.b_isinstance (by decide +kernel) (pa_cons (pv 0) (pa_cons (pe_gref T.g_ReadOnly) pa_nil))) (pa_cons (pe_callB (call_isP xc hz hf hp1) (by rfl) T.b_isinstance (by decide +kernel) (pa_cons (pv 0) (pa_cons (pe_gref T.g_NoFiles) pa_nil))) pa_nil))))))
    (pss_cons (ps_set (i := 2) nd rfl (Or.inl rfl) (pe_lst (pa_cons pe_str (pa_cons pe_str (pa_cons pe_str (pa_cons pe_str (pa_cons pe_str (pa_cons pe_str (pa_cons pe_str (pa_cons pe_str (pa_cons pe_str pa_nil)))))))))))
    (pss_cons (ps_if (PW.pt (pw_or (pt_cmpR op_ne (pe_bm PySem.F.plainAttrs_list PySem.F.slot_list_count PySem.F.type_list_count mt_countF (pv 1) (pa_cons pe_bl pa_nil)) pe_int (by rfl)) (pw_or (pt_not (pt_val (pe_callB (call_isP xc hz hf hp1) (by rfl) T.b_isinstance (by decide +kernel) (pa_cons (pv 0) (pa_cons (pe_gref T.g_StillError) pa_nil))))) (pw_or1 (pt_not (pt_val (pe_callB (call_isP xc hz hf hp1) (by rfl) T.b_isinstance (by decide +kernel) (pa_cons (pv 0) (pa_cons (pe_bltn (v := .ty "ValueError") (u := .type "ValueError") (by rfl) T.b_ValueError (by decide +kernel) rfl) pa_nil))))))))) (pss_one (ps_ret pe_str)) pss_nil)
    (pss_one (ps_ret (pe_ix ix_list (pe_op op_cat (pv 2) (pe_lst (pa_cons pe_str pa_nil))) (pe_bm PySem.F.plainAttrs_list PySem.F.slot_list_index PySem.F.type_list_index mt_index (pv 1) (pa_cons pe_bl pa_nil)) (fun _ _ => rfl)))))))), ?_⟩
  exact pure__law_word (E := E) T.x10 hd q
theorem ok__law_told {P : Program} {w : World} {K : PySem.W.Frag} {mg : Str → Option Value} {base : Heap} (T : Tx K mg) (c_Files_write : Ct_Files_write P w K mg base) (c_Files_cut : Ct_Files_cut P w K mg base) (c__law_word : Ct__law_word P w K mg base) : Ct__law_told P w K mg base := by
  obtain ⟨fd, F⟩ := T.d__law_told
  obtain ⟨_, G_Files_write, b_Files_write, k_Files_write⟩ := c_Files_write
  obtain ⟨_, G_Files_cut, b_Files_cut, k_Files_cut⟩ := c_Files_cut
  obtain ⟨_, G__law_word, b__law_word, k__law_word⟩ := c__law_word
  refine ⟨fd, FunD.ok F sc__law_told (fun vs H Q E h => len__law_told h) (fun cdv A outer s H vs Q E hr h => ?_), FunD.bindsN F fun _ _ _ _ _ _ us hl => match us, hl with | [_, _], _ => rfl, F.kp⟩
  have nd := sc__law_told.nd
  have hu := hu_of hr
  have tk : Takes (cxOf (L2.CX P w) P w K mg base N__law_told "_law_told" (defScope s__law_told) (He.ga K "_law_told") cdv A outer s H E) (WE1 E) := takes_of rfl rfl rfl rfl
  exact ⟨t__law_told K E (WE1 E), asSs (pss_one (ps_try_as (i := 2) (tb := fun W1 => uSeq (uIfS (uTest (uOp rEq (uOp (rIxT K) (tVar 1) (uC (.int 0))) (uC (.str "write")))) (uRet (uMethW (He.ga K "Files") "write" (sp_Files_write K) W1 (tVar 0) (uCons (uOp (rIxT K) (tVar 1) (uC (.int 1))) (uCons (uOp (rIxT K) (tVar 1) (uC (.int 2))) (uCons (uOp (rIxT K) (tVar 1) (uC (.int 3))) uNil))))) uNext)
    (uRet (uMethW (He.ga K "Files") "cut" (sp_Files_cut K) W1 (tVar 0) (uCons (uOp (rIxT K) (tVar 1) (uC (.int 1))) (uCons (uOp (rIxT K) (tVar 1) (uC (.int 2))) uNil))))) (ts := fun a cls d => uRet (uWordS K a cls d (uCons (tVar 2) uNil))) (Wout := (WE1 E)) rfl rfl nd rfl rfl ⟨rfl, by decide, .inl T.g_StillError⟩ tk (fun W1 pn1 xe1 tk1 hp1 => asSs (pss_cons (ps_if (pt_cmpR op_eq (pe_ix ix_tup (pv 1) pe_int (fun _ _ => rfl)) pe_str (by rfl)) (pss_one (ps_ret (pe_methW (pv 0) T.x_Files.c T.m_Files_write G_Files_write (hr.mono (by decide)) b_Files_write tk1 (pa_cons (pe_ix ix_tup (pv 1) pe_int (fun _ _ => rfl)) (pa_cons (pe_ix ix_tup (pv 1) pe_int (fun _ _ => rfl)) (pa_cons (pe_ix ix_tup (pv 1) pe_int (fun _ _ => rfl)) pa_nil)))))) pss_nil)
    (pss_one (ps_ret (pe_methW (pv 0) T.x_Files.c T.m_Files_cut G_Files_cut (hr.mono (by decide)) b_Files_cut tk1 (pa_cons (pe_ix ix_tup (pv 1) pe_int (fun _ _ => rfl)) (pa_cons (pe_ix ix_tup (pv 1) pe_int (fun _ _ => rfl)) pa_nil)))))) rfl) (fun a oe cls d pn hz hf => asSs (pss_one (ps_ret (pe_wordS G__law_word (roomP (hr.mono (by decide)) _) List.mem_cons_self hz hf T.g__law_word k__law_word b__law_word (pa_cons (pv 2) pa_nil)))) rfl))) rfl, pure__law_told T.x10 h⟩
theorem ok__law_changed {P : Program} {w : World} {K : PySem.W.Frag} {mg : Str → Option Value} {base : Heap} (T : Tx K mg) : Ct__law_changed P w K mg base := by
  obtain ⟨fd, F⟩ := T.d__law_changed
  refine ⟨fd, FunD.ok F sc__law_changed (fun vs H Q E h => len__law_changed h) (fun cdv A outer s H vs Q E hr h => ?_), FunD.bindsN F fun _ _ _ _ _ _ us hl => match us, hl with | [_, _], _ => rfl, F.kp⟩
  have nd := sc__law_changed.nd
  have hu := hu_of hr
  have tk : Takes (cxOf (L2.CX P w) P w K mg base N__law_changed "_law_changed" (defScope s__law_changed) (He.ga K "_law_changed") cdv A outer s H E) (WE1 E) := takes_of rfl rfl rfl rfl
  exact ⟨t__law_changed K (WE1 E), asSs (pss_cons (ps_if (pt_cmpR op_eq (pe_ix ix_tup (pv 1) pe_int (fun _ _ => rfl)) pe_str (by rfl)) (pss_cons (ps_set (i := 2) nd rfl (Or.inl rfl) (pe_op op_add (pe_ix ix_tup (pv 1) pe_int (fun _ _ => rfl)) (pe_callB call_lenQn (by rfl) T.b_len (by decide +kernel) (pa_cons (pe_ix ix_tup (pv 1) pe_int (fun _ _ => rfl)) pa_nil))))
    (pss_cons (ps_if (pt_cmpR op_gt (pv 2) pe_int (by rfl)) (pss_one (ps_ret (pe_tup (pa_cons pe_str (pa_cons (pv 0) pa_nil))))) pss_nil)
    (pss_cons (ps_if (pt_cmpR (op_eqD (Room.units hr)) (pe_ix ix_tup (pv 1) pe_int (fun _ _ => rfl)) (pe_lst pa_nil) (by rfl)) (pss_one (ps_ret (pe_tup (pa_cons pe_int (pa_cons (pv 0) pa_nil))))) pss_nil)
    (pss_cons (ps_set (i := 3) nd rfl (Or.inl rfl) (pe_op op_cat (pv 0) (pe_op op_rep (pe_lst (pa_cons pe_int pa_nil)) (pe_op op_sub (pe_ix ix_tup (pv 1) pe_int (fun _ _ => rfl)) (pe_callB call_lenQn (by rfl) T.b_len (by decide +kernel) (pa_cons (pv 0) pa_nil))))))
    (pss_one (ps_ret (pe_tup (pa_cons (pe_callB call_lenQn (by rfl) T.b_len (by decide +kernel) (pa_cons (pe_ix ix_tup (pv 1) pe_int (fun _ _ => rfl)) pa_nil)) (pa_cons (pe_op op_cat (pe_op op_cat (pe_slice sl_list (pv 3) po_none (po_some (pe_ix ix_tup (pv 1) pe_int (fun _ _ => rfl)))) (pe_ix ix_tup (pv 1) pe_int (fun _ _ => rfl))) (pe_slice sl_list (pv 3) (po_some (pv 2)) po_none)) pa_nil))))))))) pss_nil)
    (pss_cons (ps_if (pt_cmpR op_gt (pe_ix ix_tup (pv 1) pe_int (fun _ _ => rfl)) pe_int (by rfl)) (pss_one (ps_ret (pe_tup (pa_cons pe_str (pa_cons (pv 0) pa_nil))))) pss_nil)
    (pss_one (ps_ret (pe_tup (pa_cons pe_non (pa_cons (pe_op op_cat (pe_slice sl_list (pv 0) po_none (po_some (pe_ix ix_tup (pv 1) pe_int (fun _ _ => rfl)))) (pe_op op_rep (pe_lst (pa_cons pe_int pa_nil)) (pe_op op_sub (pe_ix ix_tup (pv 1) pe_int (fun _ _ => rfl)) (pe_callB call_lenQn (by rfl) T.b_len (by decide +kernel) (pa_cons (pv 0) pa_nil))))) pa_nil))))))) rfl, pure__law_changed h⟩
theorem ok__law_deed {P : Program} {w : World} {K : PySem.W.Frag} {mg : Str → Option Value} {base : Heap} (T : Tx K mg) : Ct__law_deed P w K mg base := by
  obtain ⟨fd, F⟩ := T.d__law_deed
  refine ⟨fd, FunD.ok F sc__law_deed (fun vs H Q E h => len__law_deed h) (fun cdv A outer s H vs Q E hr h => ?_), FunD.bindsN F fun _ _ _ _ _ _ us hl => match us, hl with | [_, _, _, _], _ => rfl, F.kp⟩
  have nd := sc__law_deed.nd
  have hu := hu_of hr
  have tk : Takes (cxOf (L2.CX P w) P w K mg base N__law_deed "_law_deed" (defScope s__law_deed) (He.ga K "_law_deed") cdv A outer s H E) (WE1 E) := takes_of rfl rfl rfl rfl
  exact ⟨t__law_deed K (WE1 E), asSs (pss_cons (ps_set (i := 4) nd rfl (Or.inl rfl) (pe_ix ix_list (pe_lst (pa_cons pe_int (pa_cons (pv 3) (pa_cons (pe_op op_mod (pe_op op_fdiv (pv 1) pe_int) pe_int) (pa_cons (pe_callB (call_max2n rfl) (by rfl) T.b_max (by decide +kernel) (pa_cons pe_int (pa_cons (pe_op op_sub (pv 3) (pe_op op_mod (pe_op op_fdiv (pv 1) pe_int) pe_int)) pa_nil))) (pa_cons (pe_op op_add (pv 3) (pe_op op_mod (pe_op op_fdiv (pv 1) pe_int) pe_int)) (pa_cons pe_int pa_nil))))))) (pe_op op_mod (pv 1) pe_int) (fun _ _ => rfl)))
    (pss_cons (ps_if (pt_cmpR op_eq (pe_op op_mod (pe_op op_fdiv (pv 1) pe_int) pe_int) pe_int (by rfl)) (pss_one (ps_ret (pe_tup (pa_cons pe_str (pa_cons (pv 2) (pa_cons (pe_ix ix_list (pe_lst (pa_cons (pv 4) (pa_cons (pe_op op_mod (pe_op op_fdiv (pv 1) pe_int) pe_int) (pa_cons (pe_op op_shl pe_int pe_int) pa_nil)))) (pe_op op_mod (pe_op op_fdiv (pv 1) pe_int) pe_int) (fun _ _ => rfl)) pa_nil)))))) pss_nil)
    (pss_cons (ps_set (i := 5) nd rfl (Or.inl rfl) (pe_ix ix_list (pe_lst (pa_cons pe_int (pa_cons (pe_op op_add pe_int (pe_op op_mod (pe_op op_fdiv (pv 1) pe_int) pe_int)) (pa_cons (pe_op op_mod (pe_op op_fdiv (pv 1) pe_int) pe_int) (pa_cons (pe_op op_add (pe_callB (call_max2n rfl) (by rfl) T.b_max (by decide +kernel) (pa_cons pe_int (pa_cons (pe_op op_sub pe_int (pv 4)) pa_nil))) (pe_op op_mod (pe_op op_fdiv (pv 1) pe_int) pe_int)) pa_nil))))) (pe_op op_mod (pe_op op_fdiv (pv 1) pe_int) pe_int) (fun _ _ => rfl)))
    (pss_one (ps_ret (pe_tup (pa_cons pe_str (pa_cons (pv 2) (pa_cons (pv 4) (pa_cons (pe_lc (own := [("_law_j", 6)]) (g := gName 6) (tt := tYes) (te := uOp rModI (uOp rAddI (tVar 0) (uOp rMulI (tVar 6) (tVar 1))) (uC (.int 256))) rfl nd (pi_range1 rfl T.b_range (pa_cons (pv 5) pa_nil)) (blkOk_by (N := N__law_deed) (sc := defScope s__law_deed) (by decide +kernel)) (fun _ _ _ _ _ => pg_name (i := 6) nd rfl (Or.inl rfl)) (fun _ _ _ _ _ => pts_nil) (fun _ _ _ _ _ => asE (pe_op op_mod (pe_op op_add (pv 0) (pe_op op_mul (pv 6) (pv 1))) pe_int) rfl)) pa_nil)))))))))) rfl, pure__law_deed h⟩
theorem okf_law {P : Program} {w : World} {K : PySem.W.Frag} {mg : Str → Option Value} {base : Heap} (T : Tx K mg) (c_Disk___init__ : Ct_Disk___init__ P w K mg base) (c_formatted : Ct_formatted P w K mg base) (c_Files_make : Ct_Files_make P w K mg base) (c_Files_link : Ct_Files_link P w K mg base) (c__law_cell : Ct__law_cell P w K mg base) (c__law_drawn : Ct__law_drawn P w K mg base) (c__law_deed : Ct__law_deed P w K mg base) (c__law_changed : Ct__law_changed P w K mg base) (c__law_told : Ct__law_told P w K mg base) (c_Files_read : Ct_Files_read P w K mg base) (c_Files_stat : Ct_Files_stat P w K mg base) (c_Files_find : Ct_Files_find P w K mg base) {fd : FuncData} (F : FunD K "law" "law" (defArgs s_law) (defBody s_law) (defScope s_law) [] [] (He.ga K "law") fd) : FnOk P w K mg base (L2.CX P w) 8 (He.ga K "law") fd ["_law_script"] (sp_law K) := by
  obtain ⟨_, G_Disk___init__, b_Disk___init__, k_Disk___init__⟩ := c_Disk___init__
  obtain ⟨_, G_formatted, b_formatted, k_formatted⟩ := c_formatted
  obtain ⟨_, G_Files_make, b_Files_make, k_Files_make⟩ := c_Files_make
  obtain ⟨_, G_Files_link, b_Files_link, k_Files_link⟩ := c_Files_link
  obtain ⟨_, G__law_cell, b__law_cell, k__law_cell⟩ := c__law_cell
  obtain ⟨_, G__law_drawn, b__law_drawn, k__law_drawn⟩ := c__law_drawn
  obtain ⟨_, G__law_deed, b__law_deed, k__law_deed⟩ := c__law_deed
  obtain ⟨_, G__law_changed, b__law_changed, k__law_changed⟩ := c__law_changed
  obtain ⟨_, G__law_told, b__law_told, k__law_told⟩ := c__law_told
  obtain ⟨_, G_Files_read, b_Files_read, k_Files_read⟩ := c_Files_read
  obtain ⟨_, G_Files_stat, b_Files_stat, k_Files_stat⟩ := c_Files_stat
  obtain ⟨_, G_Files_find, b_Files_find, k_Files_find⟩ := c_Files_find
  refine FunD.ok F sc_law (fun vs H Q E h => len_law h) (fun cdv A outer s H vs Q E hr h => ?_)
  have nd := sc_law.nd
  have hu := hu_of hr
  have tk : Takes (cxOf (L2.CX P w) P w K mg base N_law "law" (defScope s_law) (He.ga K "law") cdv A outer s H E) (WE1 E) := takes_of rfl rfl rfl rfl
  exact ⟨t_law K (WE1 E), asSs (pss_cons (ps_set (i := 1) nd rfl (Or.inl rfl) (pe_callW G_formatted (hr.mono (by decide)) T.g_formatted k_formatted b_formatted tk (pa_cons (pe_makeW T.k_Disk G_Disk___init__ (hr.mono (by decide)) T.g_Disk b_Disk___init__ tk (pa_cons pe_int pa_nil)) pa_nil)))
    (pss_cons (ps_if (pt_not (pt_val (pe_callB (call_isCn T.is_Files) (by rfl) T.b_isinstance (by decide +kernel) (pa_cons (pv 1) (pa_cons (pe_gref T.g_Files) pa_nil))))) (pss_one (ps_ret pe_bl)) pss_nil)
    (pss_cons (ps_set (i := 2) nd rfl (Or.inl rfl) (pe_disp (pps_cons (pe_methW (pv 1) T.x_Files.c T.m_Files_make G_Files_make (hr.mono (by decide)) b_Files_make tk (pa_cons pe_str (pa_cons pe_str pa_nil))) (pe_lst pa_nil) (pps_cons (pe_methW (pv 1) T.x_Files.c T.m_Files_make G_Files_make (hr.mono (by decide)) b_Files_make tk (pa_cons pe_str (pa_cons pe_str pa_nil))) (pe_lst pa_nil) pps_nil)) (by rfl) (by rfl) (fun z => by cases z) (by decide)))
    (pss_cons (ps_expr (pe_methW (pv 1) T.x_Files.c T.m_Files_link G_Files_link (hr.mono (by decide)) b_Files_link tk (pa_cons pe_str (pa_cons pe_str pa_nil))))
    (pss_cons (ps_for (passes_of rfl) rfl (pi_range1 rfl T.b_range (pa_cons (pe_callB (call_max2n rfl) (by rfl) T.b_max (by decide +kernel) (pa_cons pe_int (pa_cons (pe_callB (call_min2n rfl) (by rfl) T.b_min (by decide +kernel) (pa_cons pe_int (pa_cons (pe_callB call_lenQn (by rfl) T.b_len (by decide +kernel) (pa_cons (pv 0) pa_nil)) pa_nil))) pa_nil))) pa_nil)) (pg_name (i := 3) nd rfl (Or.inl rfl)) (pss_cons (ps_set (i := 4) nd rfl (Or.inl rfl) (pe_callW G__law_cell (hr.mono (by decide)) T.g__law_cell k__law_cell b__law_cell tk (pa_cons (pv 0) (pa_cons (pv 3) pa_nil))))
    (pss_cons (ps_set (i := 5) nd rfl (Or.inl rfl) (pe_callW G__law_drawn (hr.mono (by decide)) T.g__law_drawn k__law_drawn b__law_drawn tk (pa_cons (pv 4) (pa_cons (pv 3) pa_nil))))
    (pss_cons (ps_set (i := 6) nd rfl (Or.inl rfl) (pe_op op_add pe_int (pe_op op_mod (pv 5) pe_int)))
    (pss_cons (ps_set (i := 7) nd rfl (Or.inl rfl) (pe_callW G__law_deed (hr.mono (by decide)) T.g__law_deed k__law_deed b__law_deed tk (pa_cons (pv 4) (pa_cons (pe_op op_fdiv (pv 5) pe_int) (pa_cons (pv 6) (pa_cons (pe_callB call_lenQn (by rfl) T.b_len (by decide +kernel) (pa_cons (pe_dget hu (pv 2) (pv 6) (fun _ _ => rfl)) pa_nil)) pa_nil))))))
    (pss_cons (ps_set (i := 8) nd rfl (Or.inl rfl) (pe_ifExp (pt_cmpR op_eq (pe_ix ix_tup (pv 7) pe_int (fun _ _ => rfl)) pe_str (by rfl)) (pe_callTy call_listn (by rfl) T.b_list (by decide +kernel) (pa_cons (pe_ix ix_tup (pv 7) (pe_un un_negn pe_int) (fun _ _ => rfl)) pa_nil)) (pe_lst pa_nil)))
    (pss_cons (ps_asg (pe_callW G__law_changed (hr.mono (by decide)) T.g__law_changed k__law_changed b__law_changed tk (pa_cons (pe_dget hu (pv 2) (pv 6) (fun _ _ => rfl)) (pa_cons (pv 7) pa_nil))) (pg_tup rfl (pgs_cons (pg_name (i := 12) nd rfl (Or.inl rfl)) (pgs_cons (pg_name (i := 13) nd rfl (Or.inl rfl)) pgs_nil))))
    (pss_cons (ps_if (PW.pt (pw_or (pt_cmpR (op_neD (Room.units hr)) (pe_callW G__law_told (hr.mono (by decide)) T.g__law_told k__law_told b__law_told tk (pa_cons (pv 1) (pa_cons (pv 7) pa_nil))) (pv 12) (by rfl)) (pw_or1 (PW.pt (pw_and (pt_cmpR op_eq (pe_ix ix_tup (pv 7) pe_int (fun _ _ => rfl)) pe_str (by rfl)) (pw_and1 (pt_cmpR (op_neD (Room.units hr)) (pe_ix ix_tup (pv 7) pe_int (fun _ _ => rfl)) (pv 8) (by rfl)))))))) (pss_one (ps_ret pe_bl)) pss_nil)
    (pss_cons (ps_dput hu (pv 2) (pv 6) (pv 13) rfl)
    (pss_cons (ps_set (i := 9) nd rfl (Or.inl rfl) (pe_op op_mod (pe_op op_fdiv (pv 5) pe_int) pe_int))
    (pss_cons (ps_set (i := 10) nd rfl (Or.inl rfl) (pe_op op_mod (pe_op op_fdiv (pv 5) pe_int) pe_int))
    (pss_cons (ps_set (i := 11) nd rfl (Or.inl rfl) (pe_methW (pv 1) T.x_Files.c T.m_Files_read G_Files_read (hr.mono (by decide)) b_Files_read tk (pa_cons (pv 6) (pa_cons (pv 9) (pa_cons (pv 10) pa_nil)))))
    (pss_cons (ps_if (PW.pt (pw_or (pt_cmpR (op_neD (Room.units hr)) (pv 11) (pe_slice sl_list (pv 13) (po_some (pv 9)) (po_some (pe_op op_add (pv 9) (pv 10)))) (by rfl)) (pw_or1 (pt_cmpR (op_neD (Room.units hr)) (pe_methW (pv 1) T.x_Files.c T.m_Files_read G_Files_read (hr.mono (by decide)) b_Files_read tk (pa_cons (pv 6) (pa_cons pe_int (pa_cons (pe_op op_shl pe_int pe_int) pa_nil)))) (pv 13) (by rfl))))) (pss_one (ps_ret pe_bl)) pss_nil)
    (pss_cons (ps_expr (pe_bm PySem.F.plainAttrs_list PySem.F.slot_list_append PySem.F.type_list_append mt_append (pv 11) (pa_cons pe_int pa_nil)))
    (pss_cons (ps_if (PW.pt (pw_and (pt_cmpR op_eq (pe_ix ix_tup (pv 7) pe_int (fun _ _ => rfl)) pe_str (by rfl)) (pw_and1 (pt_cmpR (op_neD (Room.units hr)) (pe_ix ix_tup (pv 7) pe_int (fun _ _ => rfl)) (pe_lst pa_nil) (by rfl))))) (pss_one (ps_asg (pe_op op_sub pe_int (pe_ix ix_list (pe_ix ix_tup (pv 7) pe_int (fun _ _ => rfl)) pe_int (fun _ _ => rfl))) (pg_sub (pe_ix ix_tup (pv 7) pe_int (fun _ _ => rfl)) pe_int set_list))) pss_nil)
    (pss_cons (ps_if (pt_cmpR (op_neD (Room.units hr)) (pe_methW (pv 1) T.x_Files.c T.m_Files_read G_Files_read (hr.mono (by decide)) b_Files_read tk (pa_cons (pv 6) (pa_cons (pv 9) (pa_cons (pv 10) pa_nil)))) (pe_slice sl_list (pv 13) (po_some (pv 9)) (po_some (pe_op op_add (pv 9) (pv 10)))) (by rfl)) (pss_one (ps_ret pe_bl)) pss_nil)
    (pss_one (ps_if (PW.pt (pw_or (pt_cmpR (op_neD (Room.units hr)) (pe_methW (pv 1) T.x_Files.c T.m_Files_stat G_Files_stat (hr.mono (by decide)) b_Files_stat tk (pa_cons (pv 6) pa_nil)) (pe_tup (pa_cons pe_str (pa_cons (pe_op op_sub pe_int (pv 6)) (pa_cons (pe_callB call_lenQn (by rfl) T.b_len (by decide +kernel) (pa_cons (pv 13) pa_nil)) pa_nil)))) (by rfl)) (pw_or1 (pt_cmpR op_ne (pe_methW (pv 1) T.x_Files.c T.m_Files_find G_Files_find (hr.mono (by decide)) b_Files_find tk (pa_cons pe_str pa_nil)) pe_int (by rfl))))) (pss_one (ps_ret pe_bl)) pss_nil))))))))))))))))))
    (pss_one (ps_ret pe_bl))))))) rfl, pure_law h⟩
end SP
set_option Elab.async false
set_option linter.all false
set_option maxRecDepth 100000
set_option maxHeartbeats 0
namespace SP
open PySem PySem.Spec PyProof.Rows L2 L2H
def d_Disk___init__ : He.DefD := ⟨("Disk", some "__init__"), "__init__", "Disk.__init__", defArgs s_Disk___init__, defBody s_Disk___init__, defScope s_Disk___init__, [], []⟩
def d_Disk_write : He.DefD := ⟨("Disk", some "write"), "write", "Disk.write", defArgs s_Disk_write, defBody s_Disk_write, defScope s_Disk_write, [], []⟩
def d_Disk_barrier : He.DefD := ⟨("Disk", some "barrier"), "barrier", "Disk.barrier", defArgs s_Disk_barrier, defBody s_Disk_barrier, defScope s_Disk_barrier, [], []⟩
def d_many_blocks : He.DefD := ⟨("many_blocks", none), "many_blocks", "many_blocks", defArgs s_many_blocks, defBody s_many_blocks, defScope s_many_blocks, [], []⟩
def d_padded : He.DefD := ⟨("padded", none), "padded", "padded", defArgs s_padded, defBody s_padded, defScope s_padded, [], []⟩
def d_write_chain : He.DefD := ⟨("write_chain", none), "write_chain", "write_chain", defArgs s_write_chain, defBody s_write_chain, defScope s_write_chain, [], []⟩
def d_write_root : He.DefD := ⟨("write_root", none), "write_root", "write_root", defArgs s_write_root, defBody s_write_root, defScope s_write_root, [], []⟩
def d_is_name : He.DefD := ⟨("is_name", none), "is_name", "is_name", defArgs s_is_name, defBody s_is_name, defScope s_is_name, [], []⟩
def d_need_name : He.DefD := ⟨("need_name", none), "need_name", "need_name", defArgs s_need_name, defBody s_need_name, defScope s_need_name, [], []⟩
def d_parts : He.DefD := ⟨("parts", none), "parts", "parts", defArgs s_parts, defBody s_parts, defScope s_parts, [], []⟩
def d_Thing___init__ : He.DefD := ⟨("Thing", some "__init__"), "__init__", "Thing.__init__", defArgs s_Thing___init__, defBody s_Thing___init__, defScope s_Thing___init__, [], []⟩
def d_fresh : He.DefD := ⟨("fresh", none), "fresh", "fresh", defArgs s_fresh, defBody s_fresh, defScope s_fresh, [], []⟩
def d_copied : He.DefD := ⟨("copied", none), "copied", "copied", defArgs s_copied, defBody s_copied, defScope s_copied, [], []⟩
def d_size_of : He.DefD := ⟨("size_of", none), "size_of", "size_of", defArgs s_size_of, defBody s_size_of, defScope s_size_of, [], []⟩
def d_links_of : He.DefD := ⟨("links_of", none), "links_of", "links_of", defArgs s_links_of, defBody s_links_of, defScope s_links_of, [], []⟩
def d_least_free : He.DefD := ⟨("least_free", none), "least_free", "least_free", defArgs s_least_free, defBody s_least_free, defScope s_least_free, [], []⟩
def d_entry_of : He.DefD := ⟨("entry_of", none), "entry_of", "entry_of", defArgs s_entry_of, defBody s_entry_of, defScope s_entry_of, [], []⟩
def d_walked : He.DefD := ⟨("walked", none), "walked", "walked", defArgs s_walked, defBody s_walked, defScope s_walked, [], []⟩
def d_place_of : He.DefD := ⟨("place_of", none), "place_of", "place_of", defArgs s_place_of, defBody s_place_of, defScope s_place_of, [], []⟩
def d_text_bytes : He.DefD := ⟨("text_bytes", none), "text_bytes", "text_bytes", defArgs s_text_bytes, defBody s_text_bytes, defScope s_text_bytes, [], []⟩
def d_thing_bytes : He.DefD := ⟨("thing_bytes", none), "thing_bytes", "thing_bytes", defArgs s_thing_bytes, defBody s_thing_bytes, defScope s_thing_bytes, [], []⟩
def d_state_bytes : He.DefD := ⟨("state_bytes", none), "state_bytes", "state_bytes", defArgs s_state_bytes, defBody s_state_bytes, defScope s_state_bytes, [], []⟩
def d_image : He.DefD := ⟨("image", none), "image", "image", defArgs s_image, defBody s_image, defScope s_image, [], []⟩
def d_Files___init__ : He.DefD := ⟨("Files", some "__init__"), "__init__", "Files.__init__", defArgs s_Files___init__, defBody s_Files___init__, defScope s_Files___init__, [], []⟩
def d_Files_may_write : He.DefD := ⟨("Files", some "may_write"), "may_write", "Files.may_write", defArgs s_Files_may_write, defBody s_Files_may_write, defScope s_Files_may_write, [], []⟩
def d_Files_become : He.DefD := ⟨("Files", some "become"), "become", "Files.become", defArgs s_Files_become, defBody s_Files_become, defScope s_Files_become, [], []⟩
def d_Files_file_at : He.DefD := ⟨("Files", some "file_at"), "file_at", "Files.file_at", defArgs s_Files_file_at, defBody s_Files_file_at, defScope s_Files_file_at, [], []⟩
def d_Files_find : He.DefD := ⟨("Files", some "find"), "find", "Files.find", defArgs s_Files_find, defBody s_Files_find, defScope s_Files_find, [], []⟩
def d_Files_place_for : He.DefD := ⟨("Files", some "place_for"), "place_for", "Files.place_for", defArgs s_Files_place_for, defBody s_Files_place_for, defScope s_Files_place_for, [], []⟩
def d_Files_make : He.DefD := ⟨("Files", some "make"), "make", "Files.make", defArgs s_Files_make, defBody s_Files_make, defScope s_Files_make, [], []⟩
def d_Files_link : He.DefD := ⟨("Files", some "link"), "link", "Files.link", defArgs s_Files_link, defBody s_Files_link, defScope s_Files_link, [], []⟩
def d_Files_read : He.DefD := ⟨("Files", some "read"), "read", "Files.read", defArgs s_Files_read, defBody s_Files_read, defScope s_Files_read, [], []⟩
def d_Files_write : He.DefD := ⟨("Files", some "write"), "write", "Files.write", defArgs s_Files_write, defBody s_Files_write, defScope s_Files_write, [], []⟩
def d_Files_cut : He.DefD := ⟨("Files", some "cut"), "cut", "Files.cut", defArgs s_Files_cut, defBody s_Files_cut, defScope s_Files_cut, [], []⟩
def d_Files_stat : He.DefD := ⟨("Files", some "stat"), "stat", "Files.stat", defArgs s_Files_stat, defBody s_Files_stat, defScope s_Files_stat, [], []⟩
def d_formatted : He.DefD := ⟨("formatted", none), "formatted", "formatted", defArgs s_formatted, defBody s_formatted, defScope s_formatted, [], []⟩
def d__law_cell : He.DefD := ⟨("_law_cell", none), "_law_cell", "_law_cell", defArgs s__law_cell, defBody s__law_cell, defScope s__law_cell, [], []⟩
def d__law_drawn : He.DefD := ⟨("_law_drawn", none), "_law_drawn", "_law_drawn", defArgs s__law_drawn, defBody s__law_drawn, defScope s__law_drawn, [], []⟩
def d__law_word : He.DefD := ⟨("_law_word", none), "_law_word", "_law_word", defArgs s__law_word, defBody s__law_word, defScope s__law_word, [], []⟩
def d__law_told : He.DefD := ⟨("_law_told", none), "_law_told", "_law_told", defArgs s__law_told, defBody s__law_told, defScope s__law_told, [], []⟩
def d__law_changed : He.DefD := ⟨("_law_changed", none), "_law_changed", "_law_changed", defArgs s__law_changed, defBody s__law_changed, defScope s__law_changed, [], []⟩
def d__law_deed : He.DefD := ⟨("_law_deed", none), "_law_deed", "_law_deed", defArgs s__law_deed, defBody s__law_deed, defScope s__law_deed, [], []⟩
def d_law : He.DefD := ⟨("law", none), "law", "law", defArgs s_law, defBody s_law, defScope s_law, [], []⟩
def fa0 : List He.Fa := [.glo "StillError", .exc "StillError", .glo "NoThing", .exc "NoThing", .glo "NoDirectory", .exc "NoDirectory", .glo "BadName", .exc "BadName", .glo "IsThere", .exc "IsThere", .glo "NoRoom", .exc "NoRoom", .glo "NotEmpty", .exc "NotEmpty", .glo "WrongKind", .exc "WrongKind", .glo "TooGreat", .exc "TooGreat", .glo "ReadOnly", .exc "ReadOnly"]
def fa1 : List He.Fa := [.glo "NoFiles", .exc "NoFiles", .glo "Disk", .cls "Disk", .noat "Disk" "blocks", .noat "Disk" "log", .mkr "Disk", .glo "Thing", .cls "Thing", .noat "Thing" "kind", .noat "Thing" "held", .noat "Thing" "entries", .mkr "Thing", .glo "Files", .cls "Files", .noat "Files" "disk", .noat "Files" "state", .noat "Files" "kept", .noat "Files" "slot", .noat "Files" "turn"]
def fa2 : List He.Fa := [.noat "Files" "used", .noat "Files" "is_new", .mkr "Files", .meth "Disk" "write", .meth "Disk" "barrier", .glo "many_blocks", .glo "padded", .glo "write_chain", .glo "write_root", .glo "is_name", .glo "need_name", .glo "parts", .glo "fresh", .glo "copied", .glo "size_of", .glo "links_of", .glo "least_free", .glo "entry_of", .glo "walked", .glo "place_of"]
def fa3 : List He.Fa := [.glo "text_bytes", .glo "thing_bytes", .glo "state_bytes", .glo "image", .meth "Files" "may_write", .meth "Files" "become", .meth "Files" "file_at", .meth "Files" "find", .meth "Files" "place_for", .meth "Files" "make", .meth "Files" "link", .meth "Files" "read", .meth "Files" "write", .meth "Files" "cut", .meth "Files" "stat", .glo "formatted", .glo "_law_cell", .glo "_law_drawn", .glo "_law_word", .glo "_law_told"]
def ch0 : HQ.Chk := ⟨fa0 ++ fa1 ++ fa2 ++ fa3, [], [], (fun K => (xk K && insB K (He.ga K "Files")))⟩
def fa4 : List He.Fa := [.glo "_law_changed", .glo "_law_deed", .glo "law", .free "len", .free "all", .free "any", .free "sum", .free "min", .free "max", .free "ord", .free "sorted", .free "list", .free "dict", .free "tuple", .free "int", .free "range", .free "isinstance", .free "ValueError", .int "SIZE" 64, .int "LEAST" 16]
def fa5 : List He.Fa := [.int "MOST" 256, .int "PAYLOAD" 62, .int "MARK" 83, .int "FIRST" 2, .int "MOST_NAME" 8, .int "MOST_PATH" 60, .str "SIGNS" txt_SIGNS, .int "MOST_THINGS" 32, .int "MOST_SIZE" 600, .int "MOST_ENTRIES" 40, .int "ENTRY" 10]
def fn0 : List He.DefD := [d_Disk___init__, d_Disk_write, d_Disk_barrier, d_many_blocks, d_padded, d_write_chain, d_write_root, d_is_name, d_need_name, d_parts, d_Thing___init__, d_fresh, d_copied, d_size_of, d_links_of, d_least_free, d_entry_of, d_walked, d_place_of, d_text_bytes]
def fn1 : List He.DefD := [d_thing_bytes, d_state_bytes, d_image, d_Files___init__, d_Files_may_write, d_Files_become, d_Files_file_at, d_Files_find, d_Files_place_for, d_Files_make, d_Files_link, d_Files_read, d_Files_write, d_Files_cut, d_Files_stat, d_formatted, d__law_cell, d__law_drawn, d__law_word, d__law_told]
def ch1 : HQ.Chk := ⟨fa4 ++ fa5, fn0 ++ fn1, [], fun _ => true⟩
def fn2 : List He.DefD := [d__law_changed, d__law_deed, d_law]
def ch2 : HQ.Chk := ⟨[], fn2, [], fun _ => true⟩
def chs : List HQ.Chk := [ch0, ch1, ch2]
def names0 : List PySem.Str := ["_wall", "StillError", "NoThing", "NoDirectory", "BadName", "IsThere", "NoRoom", "NotEmpty", "WrongKind", "TooGreat", "ReadOnly", "NoFiles", "SIZE", "LEAST", "MOST", "Disk", "PAYLOAD", "MARK", "FIRST", "many_blocks", "padded", "write_chain", "write_root", "MOST_NAME", "MOST_PATH", "SIGNS", "is_name", "need_name", "parts", "MOST_THINGS"]
def names1 : List PySem.Str := ["MOST_SIZE", "MOST_ENTRIES", "ENTRY", "Thing", "fresh", "copied", "size_of", "links_of", "least_free", "entry_of", "walked", "place_of", "text_bytes", "thing_bytes", "state_bytes", "image", "Files", "formatted", "_law_cell", "_law_drawn", "_law_word", "_law_told", "_law_changed", "_law_deed"]
def names : List PySem.Str := names0 ++ names1
abbrev R : PySem.W.OpenRow := PySem.W.OpenLaw.row PySem.Challenge.rw_stillpoint_k14_bytes_of_files
theorem run_l : HQ.RunL R 8000 := by
  intro w os
  kernel_rfl
theorem run_s : HQ.RunS R 8000 (PySem.W.view R.prog [62]) names := by
  intro w os
  kernel_rfl
theorem run_0 : HQ.RunC R 8000 ch0 := by
  intro w os
  kernel_rfl
theorem run_1 : HQ.RunC R 8000 ch1 := by
  intro w os
  kernel_rfl
theorem run_2 : HQ.RunC R 8000 ch2 := by
  intro w os
  kernel_rfl
end SP
set_option Elab.async false
set_option linter.all false
set_option maxRecDepth 100000
set_option maxHeartbeats 0
namespace SP
open PySem PySem.Spec PyProof.Rows L2 L2H
theorem tx_of {w : World} {K : PySem.W.Frag} {h : Heap} {mg : Str → Option Value} (X : K.In h) (G : h.Ns mainGlobals mg) (c0 : ch0.says w h K) (c1 : ch1.says w h K) (c2 : ch2.says w h K) : Tx K mg where
  g_StillError := He.glo_ok X G (c0.t.d.fact 0 (f := .glo "StillError") rfl)
  e_StillError := excx X G (c0.t.d.fact 0 (f := .glo "StillError") rfl) (c0.t.d.fact 1 (f := .exc "StillError") rfl)
  g_NoThing := He.glo_ok X G (c0.t.d.fact 2 (f := .glo "NoThing") rfl)
  e_NoThing := excx X G (c0.t.d.fact 2 (f := .glo "NoThing") rfl) (c0.t.d.fact 3 (f := .exc "NoThing") rfl)
  g_NoDirectory := He.glo_ok X G (c0.t.d.fact 4 (f := .glo "NoDirectory") rfl)
  e_NoDirectory := excx X G (c0.t.d.fact 4 (f := .glo "NoDirectory") rfl) (c0.t.d.fact 5 (f := .exc "NoDirectory") rfl)
  g_BadName := He.glo_ok X G (c0.t.d.fact 6 (f := .glo "BadName") rfl)
  e_BadName := excx X G (c0.t.d.fact 6 (f := .glo "BadName") rfl) (c0.t.d.fact 7 (f := .exc "BadName") rfl)
  g_IsThere := He.glo_ok X G (c0.t.d.fact 8 (f := .glo "IsThere") rfl)
  e_IsThere := excx X G (c0.t.d.fact 8 (f := .glo "IsThere") rfl) (c0.t.d.fact 9 (f := .exc "IsThere") rfl)
  g_NoRoom := He.glo_ok X G (c0.t.d.fact 10 (f := .glo "NoRoom") rfl)
  e_NoRoom := excx X G (c0.t.d.fact 10 (f := .glo "NoRoom") rfl) (c0.t.d.fact 11 (f := .exc "NoRoom") rfl)
  g_NotEmpty := He.glo_ok X G (c0.t.d.fact 12 (f := .glo "NotEmpty") rfl)
  e_NotEmpty := excx X G (c0.t.d.fact 12 (f := .glo "NotEmpty") rfl) (c0.t.d.fact 13 (f := .exc "NotEmpty") rfl)
  g_WrongKind := He.glo_ok X G (c0.t.d.fact 14 (f := .glo "WrongKind") rfl)
  e_WrongKind := excx X G (c0.t.d.fact 14 (f := .glo "WrongKind") rfl) (c0.t.d.fact 15 (f := .exc "WrongKind") rfl)
  g_TooGreat := He.glo_ok X G (c0.t.d.fact 16 (f := .glo "TooGreat") rfl)
  e_TooGreat := excx X G (c0.t.d.fact 16 (f := .glo "TooGreat") rfl) (c0.t.d.fact 17 (f := .exc "TooGreat") rfl)
  g_ReadOnly := He.glo_ok X G (c0.t.d.fact 18 (f := .glo "ReadOnly") rfl)
  e_ReadOnly := excx X G (c0.t.d.fact 18 (f := .glo "ReadOnly") rfl) (c0.t.d.fact 19 (f := .exc "ReadOnly") rfl)
  g_NoFiles := He.glo_ok X G (c0.t.d.fact 20 (f := .glo "NoFiles") rfl)
  e_NoFiles := excx X G (c0.t.d.fact 20 (f := .glo "NoFiles") rfl) (c0.t.d.fact 21 (f := .exc "NoFiles") rfl)
  g_Disk := He.glo_ok X G (c0.t.d.fact 22 (f := .glo "Disk") rfl)
  x_Disk := ⟨He.cls_ok (c0.t.d.fact 23 (f := .cls "Disk") rfl), He.noat_ok (c0.t.d.fact 24 (f := .noat "Disk" "blocks") rfl), He.noat_ok (c0.t.d.fact 25 (f := .noat "Disk" "log") rfl)⟩
  k_Disk := He.mkr_ok (c0.t.d.fact 26 (f := .mkr "Disk") rfl)
  g_Thing := He.glo_ok X G (c0.t.d.fact 27 (f := .glo "Thing") rfl)
  x_Thing := ⟨He.cls_ok (c0.t.d.fact 28 (f := .cls "Thing") rfl), He.noat_ok (c0.t.d.fact 29 (f := .noat "Thing" "kind") rfl), He.noat_ok (c0.t.d.fact 30 (f := .noat "Thing" "held") rfl), He.noat_ok (c0.t.d.fact 31 (f := .noat "Thing" "entries") rfl)⟩
  k_Thing := He.mkr_ok (c0.t.d.fact 32 (f := .mkr "Thing") rfl)
  g_Files := He.glo_ok X G (c0.t.d.fact 33 (f := .glo "Files") rfl)
  x_Files := ⟨He.cls_ok (c0.t.d.fact 34 (f := .cls "Files") rfl), He.noat_ok (c0.t.d.fact 35 (f := .noat "Files" "disk") rfl), He.noat_ok (c0.t.d.fact 36 (f := .noat "Files" "state") rfl), He.noat_ok (c0.t.d.fact 37 (f := .noat "Files" "kept") rfl), He.noat_ok (c0.t.d.fact 38 (f := .noat "Files" "slot") rfl), He.noat_ok (c0.t.d.fact 39 (f := .noat "Files" "turn") rfl), He.noat_ok (c0.t.d.fact 40 (f := .noat "Files" "used") rfl), He.noat_ok (c0.t.d.fact 41 (f := .noat "Files" "is_new") rfl)⟩
  k_Files := He.mkr_ok (c0.t.d.fact 42 (f := .mkr "Files") rfl)
  d_Disk___init__ := c1.t.d.def_ 0 (d := d_Disk___init__) rfl
  m_Disk_write := He.meth_ok (c0.t.d.fact 43 (f := .meth "Disk" "write") rfl)
  d_Disk_write := c1.t.d.def_ 1 (d := d_Disk_write) rfl
  m_Disk_barrier := He.meth_ok (c0.t.d.fact 44 (f := .meth "Disk" "barrier") rfl)
  d_Disk_barrier := c1.t.d.def_ 2 (d := d_Disk_barrier) rfl
  g_many_blocks := He.glo_ok X G (c0.t.d.fact 45 (f := .glo "many_blocks") rfl)
  d_many_blocks := c1.t.d.def_ 3 (d := d_many_blocks) rfl
  g_padded := He.glo_ok X G (c0.t.d.fact 46 (f := .glo "padded") rfl)
  d_padded := c1.t.d.def_ 4 (d := d_padded) rfl
  g_write_chain := He.glo_ok X G (c0.t.d.fact 47 (f := .glo "write_chain") rfl)
  d_write_chain := c1.t.d.def_ 5 (d := d_write_chain) rfl
  g_write_root := He.glo_ok X G (c0.t.d.fact 48 (f := .glo "write_root") rfl)
  d_write_root := c1.t.d.def_ 6 (d := d_write_root) rfl
  g_is_name := He.glo_ok X G (c0.t.d.fact 49 (f := .glo "is_name") rfl)
  d_is_name := c1.t.d.def_ 7 (d := d_is_name) rfl
  g_need_name := He.glo_ok X G (c0.t.d.fact 50 (f := .glo "need_name") rfl)
  d_need_name := c1.t.d.def_ 8 (d := d_need_name) rfl
  g_parts := He.glo_ok X G (c0.t.d.fact 51 (f := .glo "parts") rfl)
  d_parts := c1.t.d.def_ 9 (d := d_parts) rfl
  d_Thing___init__ := c1.t.d.def_ 10 (d := d_Thing___init__) rfl
  g_fresh := He.glo_ok X G (c0.t.d.fact 52 (f := .glo "fresh") rfl)
  d_fresh := c1.t.d.def_ 11 (d := d_fresh) rfl
  g_copied := He.glo_ok X G (c0.t.d.fact 53 (f := .glo "copied") rfl)
  d_copied := c1.t.d.def_ 12 (d := d_copied) rfl
  g_size_of := He.glo_ok X G (c0.t.d.fact 54 (f := .glo "size_of") rfl)
  d_size_of := c1.t.d.def_ 13 (d := d_size_of) rfl
  g_links_of := He.glo_ok X G (c0.t.d.fact 55 (f := .glo "links_of") rfl)
  d_links_of := c1.t.d.def_ 14 (d := d_links_of) rfl
  g_least_free := He.glo_ok X G (c0.t.d.fact 56 (f := .glo "least_free") rfl)
  d_least_free := c1.t.d.def_ 15 (d := d_least_free) rfl
  g_entry_of := He.glo_ok X G (c0.t.d.fact 57 (f := .glo "entry_of") rfl)
  d_entry_of := c1.t.d.def_ 16 (d := d_entry_of) rfl
  g_walked := He.glo_ok X G (c0.t.d.fact 58 (f := .glo "walked") rfl)
  d_walked := c1.t.d.def_ 17 (d := d_walked) rfl
  g_place_of := He.glo_ok X G (c0.t.d.fact 59 (f := .glo "place_of") rfl)
  d_place_of := c1.t.d.def_ 18 (d := d_place_of) rfl
  g_text_bytes := He.glo_ok X G (c0.t.d.fact 60 (f := .glo "text_bytes") rfl)
  d_text_bytes := c1.t.d.def_ 19 (d := d_text_bytes) rfl
  g_thing_bytes := He.glo_ok X G (c0.t.d.fact 61 (f := .glo "thing_bytes") rfl)
  d_thing_bytes := c1.t.d.def_ 20 (d := d_thing_bytes) rfl
  g_state_bytes := He.glo_ok X G (c0.t.d.fact 62 (f := .glo "state_bytes") rfl)
  d_state_bytes := c1.t.d.def_ 21 (d := d_state_bytes) rfl
  g_image := He.glo_ok X G (c0.t.d.fact 63 (f := .glo "image") rfl)
  d_image := c1.t.d.def_ 22 (d := d_image) rfl
  d_Files___init__ := c1.t.d.def_ 23 (d := d_Files___init__) rfl
  m_Files_may_write := He.meth_ok (c0.t.d.fact 64 (f := .meth "Files" "may_write") rfl)
  d_Files_may_write := c1.t.d.def_ 24 (d := d_Files_may_write) rfl
  m_Files_become := He.meth_ok (c0.t.d.fact 65 (f := .meth "Files" "become") rfl)
  d_Files_become := c1.t.d.def_ 25 (d := d_Files_become) rfl
  m_Files_file_at := He.meth_ok (c0.t.d.fact 66 (f := .meth "Files" "file_at") rfl)
  d_Files_file_at := c1.t.d.def_ 26 (d := d_Files_file_at) rfl
  m_Files_find := He.meth_ok (c0.t.d.fact 67 (f := .meth "Files" "find") rfl)
  d_Files_find := c1.t.d.def_ 27 (d := d_Files_find) rfl
  m_Files_place_for := He.meth_ok (c0.t.d.fact 68 (f := .meth "Files" "place_for") rfl)
  d_Files_place_for := c1.t.d.def_ 28 (d := d_Files_place_for) rfl
  m_Files_make := He.meth_ok (c0.t.d.fact 69 (f := .meth "Files" "make") rfl)
  d_Files_make := c1.t.d.def_ 29 (d := d_Files_make) rfl
  m_Files_link := He.meth_ok (c0.t.d.fact 70 (f := .meth "Files" "link") rfl)
  d_Files_link := c1.t.d.def_ 30 (d := d_Files_link) rfl
  m_Files_read := He.meth_ok (c0.t.d.fact 71 (f := .meth "Files" "read") rfl)
  d_Files_read := c1.t.d.def_ 31 (d := d_Files_read) rfl
  m_Files_write := He.meth_ok (c0.t.d.fact 72 (f := .meth "Files" "write") rfl)
  d_Files_write := c1.t.d.def_ 32 (d := d_Files_write) rfl
  m_Files_cut := He.meth_ok (c0.t.d.fact 73 (f := .meth "Files" "cut") rfl)
  d_Files_cut := c1.t.d.def_ 33 (d := d_Files_cut) rfl
  m_Files_stat := He.meth_ok (c0.t.d.fact 74 (f := .meth "Files" "stat") rfl)
  d_Files_stat := c1.t.d.def_ 34 (d := d_Files_stat) rfl
  g_formatted := He.glo_ok X G (c0.t.d.fact 75 (f := .glo "formatted") rfl)
  d_formatted := c1.t.d.def_ 35 (d := d_formatted) rfl
  g__law_cell := He.glo_ok X G (c0.t.d.fact 76 (f := .glo "_law_cell") rfl)
  d__law_cell := c1.t.d.def_ 36 (d := d__law_cell) rfl
  g__law_drawn := He.glo_ok X G (c0.t.d.fact 77 (f := .glo "_law_drawn") rfl)
  d__law_drawn := c1.t.d.def_ 37 (d := d__law_drawn) rfl
  g__law_word := He.glo_ok X G (c0.t.d.fact 78 (f := .glo "_law_word") rfl)
  d__law_word := c1.t.d.def_ 38 (d := d__law_word) rfl
  g__law_told := He.glo_ok X G (c0.t.d.fact 79 (f := .glo "_law_told") rfl)
  d__law_told := c1.t.d.def_ 39 (d := d__law_told) rfl
  g__law_changed := He.glo_ok X G (c1.t.d.fact 0 (f := .glo "_law_changed") rfl)
  d__law_changed := c2.t.d.def_ 0 (d := d__law_changed) rfl
  g__law_deed := He.glo_ok X G (c1.t.d.fact 1 (f := .glo "_law_deed") rfl)
  d__law_deed := c2.t.d.def_ 1 (d := d__law_deed) rfl
  g_law := He.glo_ok X G (c1.t.d.fact 2 (f := .glo "law") rfl)
  d_law := c2.t.d.def_ 2 (d := d_law) rfl
  b_len := He.free_ok X G (c1.t.d.fact 3 (f := .free "len") rfl)
  b_all := He.free_ok X G (c1.t.d.fact 4 (f := .free "all") rfl)
  b_any := He.free_ok X G (c1.t.d.fact 5 (f := .free "any") rfl)
  b_sum := He.free_ok X G (c1.t.d.fact 6 (f := .free "sum") rfl)
  b_min := He.free_ok X G (c1.t.d.fact 7 (f := .free "min") rfl)
  b_max := He.free_ok X G (c1.t.d.fact 8 (f := .free "max") rfl)
  b_ord := He.free_ok X G (c1.t.d.fact 9 (f := .free "ord") rfl)
  b_sorted := He.free_ok X G (c1.t.d.fact 10 (f := .free "sorted") rfl)
  b_list := He.free_ok X G (c1.t.d.fact 11 (f := .free "list") rfl)
  b_dict := He.free_ok X G (c1.t.d.fact 12 (f := .free "dict") rfl)
  b_tuple := He.free_ok X G (c1.t.d.fact 13 (f := .free "tuple") rfl)
  b_int := He.free_ok X G (c1.t.d.fact 14 (f := .free "int") rfl)
  b_range := He.free_ok X G (c1.t.d.fact 15 (f := .free "range") rfl)
  b_isinstance := He.free_ok X G (c1.t.d.fact 16 (f := .free "isinstance") rfl)
  b_ValueError := He.free_ok X G (c1.t.d.fact 17 (f := .free "ValueError") rfl)
  i_SIZE := He.int_ok X G (c1.t.d.fact 18 (f := .int "SIZE" 64) rfl)
  i_LEAST := He.int_ok X G (c1.t.d.fact 19 (f := .int "LEAST" 16) rfl)
  i_MOST := He.int_ok X G (c1.t.d.fact 20 (f := .int "MOST" 256) rfl)
  i_PAYLOAD := He.int_ok X G (c1.t.d.fact 21 (f := .int "PAYLOAD" 62) rfl)
  i_MARK := He.int_ok X G (c1.t.d.fact 22 (f := .int "MARK" 83) rfl)
  i_FIRST := He.int_ok X G (c1.t.d.fact 23 (f := .int "FIRST" 2) rfl)
  i_MOST_NAME := He.int_ok X G (c1.t.d.fact 24 (f := .int "MOST_NAME" 8) rfl)
  i_MOST_PATH := He.int_ok X G (c1.t.d.fact 25 (f := .int "MOST_PATH" 60) rfl)
  z_SIGNS := He.str_ok X G (c1.t.d.fact 26 (f := .str "SIGNS" txt_SIGNS) rfl)
  i_MOST_THINGS := He.int_ok X G (c1.t.d.fact 27 (f := .int "MOST_THINGS" 32) rfl)
  i_MOST_SIZE := He.int_ok X G (c1.t.d.fact 28 (f := .int "MOST_SIZE" 600) rfl)
  i_MOST_ENTRIES := He.int_ok X G (c1.t.d.fact 29 (f := .int "MOST_ENTRIES" 40) rfl)
  i_ENTRY := He.int_ok X G (c1.t.d.fact 30 (f := .int "ENTRY" 10) rfl)
  x10 := xk_ok (Bool.and_eq_true_iff.mp c0.more).1
  is_Files := insB_ok (He.cls_ok (c0.t.d.fact 34 (f := .cls "Files") rfl)) (Bool.and_eq_true_iff.mp c0.more).2
theorem all_law {P : Program} {w : World} {K : PySem.W.Frag} {mg : Str → Option Value} {base : Heap} (T : Tx K mg) {fd : FuncData} (F : FunD K "law" "law" (defArgs s_law) (defBody s_law) (defScope s_law) [] [] (He.ga K "law") fd) : FnOk P w K mg base (L2.CX P w) 8 (He.ga K "law") fd ["_law_script"] (sp_law K) := by
  have c_Disk___init__ : Ct_Disk___init__ P w K mg base := ok_Disk___init__ T
  have c_Thing___init__ : Ct_Thing___init__ P w K mg base := ok_Thing___init__ T
  have c_fresh : Ct_fresh P w K mg base := ok_fresh T c_Thing___init__
  have c_Files___init__ : Ct_Files___init__ P w K mg base := ok_Files___init__ T
  have c_text_bytes : Ct_text_bytes P w K mg base := ok_text_bytes T
  have c_thing_bytes : Ct_thing_bytes P w K mg base := ok_thing_bytes T c_text_bytes
  have c_state_bytes : Ct_state_bytes P w K mg base := ok_state_bytes T c_thing_bytes
  have c_image : Ct_image P w K mg base := ok_image T c_state_bytes c_text_bytes
  have c_padded : Ct_padded P w K mg base := ok_padded T
  have c_Disk_write : Ct_Disk_write P w K mg base := ok_Disk_write T
  have c_write_chain : Ct_write_chain P w K mg base := ok_write_chain T c_padded c_Disk_write
  have c_write_root : Ct_write_root P w K mg base := ok_write_root T c_padded c_Disk_write
  have c_Disk_barrier : Ct_Disk_barrier P w K mg base := ok_Disk_barrier T
  have c_formatted : Ct_formatted P w K mg base := ok_formatted T c_fresh c_Files___init__ c_image c_write_chain c_write_root c_padded c_Disk_write c_Disk_barrier
  have c_Files_may_write : Ct_Files_may_write P w K mg base := ok_Files_may_write T
  have c_is_name : Ct_is_name P w K mg base := ok_is_name T
  have c_need_name : Ct_need_name P w K mg base := ok_need_name T c_is_name
  have c_parts : Ct_parts P w K mg base := ok_parts T c_need_name
  have c_entry_of : Ct_entry_of P w K mg base := ok_entry_of T
  have c_walked : Ct_walked P w K mg base := ok_walked T c_entry_of
  have c_place_of : Ct_place_of P w K mg base := ok_place_of T c_walked
  have c_Files_place_for : Ct_Files_place_for P w K mg base := ok_Files_place_for T c_place_of
  have c_least_free : Ct_least_free P w K mg base := ok_least_free T
  have c_copied : Ct_copied P w K mg base := ok_copied T c_Thing___init__
  have c_many_blocks : Ct_many_blocks P w K mg base := ok_many_blocks T
  have c_Files_become : Ct_Files_become P w K mg base := ok_Files_become T c_image c_many_blocks
  have c_Files_make : Ct_Files_make P w K mg base := ok_Files_make T c_Files_may_write c_parts c_Files_place_for c_least_free c_copied c_Thing___init__ c_Files_become
  have c_Files_link : Ct_Files_link P w K mg base := ok_Files_link T c_Files_may_write c_parts c_walked c_Files_place_for c_copied c_Files_become
  have c__law_cell : Ct__law_cell P w K mg base := ok__law_cell T
  have c__law_drawn : Ct__law_drawn P w K mg base := ok__law_drawn T
  have c__law_deed : Ct__law_deed P w K mg base := ok__law_deed T
  have c__law_changed : Ct__law_changed P w K mg base := ok__law_changed T
  have c_Files_file_at : Ct_Files_file_at P w K mg base := ok_Files_file_at T
  have c_Files_write : Ct_Files_write P w K mg base := ok_Files_write T c_Files_may_write c_Files_file_at c_copied c_Thing___init__ c_Files_become
  have c_Files_cut : Ct_Files_cut P w K mg base := ok_Files_cut T c_Files_may_write c_Files_file_at c_copied c_Thing___init__ c_Files_become
  have c__law_word : Ct__law_word P w K mg base := ok__law_word T
  have c__law_told : Ct__law_told P w K mg base := ok__law_told T c_Files_write c_Files_cut c__law_word
  have c_Files_read : Ct_Files_read P w K mg base := ok_Files_read T c_Files_file_at
  have c_links_of : Ct_links_of P w K mg base := ok_links_of T
  have c_size_of : Ct_size_of P w K mg base := ok_size_of T
  have c_Files_stat : Ct_Files_stat P w K mg base := ok_Files_stat T c_links_of c_size_of
  have c_Files_find : Ct_Files_find P w K mg base := ok_Files_find T c_parts c_walked
  exact okf_law T c_Disk___init__ c_formatted c_Files_make c_Files_link c__law_cell c__law_drawn c__law_deed c__law_changed c__law_told c_Files_read c_Files_stat c_Files_find F
end SP
open PySem PySem.W PySem.Calls PyProof.Rows
theorem PySem.Challenge.cw_stillpoint_k14_bytes_of_files_holds : PySem.Challenge.rw_stillpoint_k14_bytes_of_files.Holds := by
  w_on; o_law
  refine HandSHeadRun.head_any (r := OpenLaw.row PySem.Challenge.rw_stillpoint_k14_bytes_of_files) (q := view (OpenLaw.row PySem.Challenge.rw_stillpoint_k14_bytes_of_files).prog [62]) (H := HQ.hookQ SP.chs) (ob := HQ.obQ SP.chs) (M := 8000) (loose := SP.names) (d := HandSHeadRun.topDef (OpenLaw.row PySem.Challenge.rw_stillpoint_k14_bytes_of_files).prog 62) (kwd := []) (HQ.obQ_eq SP.chs)
    (by kernel_rfl) (fun s => by kernel_rfl) (HQ.join SP.run_l SP.run_s ?hr) (by kernel_rfl) (by kernel_rfl) (by kernel_rfl) (by rfl) (by first | assumption | decide +kernel) (by decide +kernel) ⟨rfl, rfl, rfl, rfl, rfl, by decide +kernel⟩ ?hw ?hc
  case hr =>
    intro x hx
    simp only [SP.chs, List.mem_cons, List.not_mem_nil, or_false] at hx
    rcases hx with rfl | rfl | rfl
    · exact SP.run_0
    · exact SP.run_1
    · exact SP.run_2
  case hw => w_witness2
  case hc =>
    refine LamX.walk_ofTsE (l := PySem.Challenge.rw_stillpoint_k14_bytes_of_files) (n := 63) (k := 8) (x := "_law_script") (CX := L2.CX (PySem.Challenge.rw_stillpoint_k14_bytes_of_files).prog) rfl (by decide) (by kernel_rfl) ⟨rfl, by decide, by decide⟩ ?F ?X
    case X =>
      rintro w H s e s' ⟨_, _, _, _, _, _, _, _, _, _, _, _, z⟩
      exact z
    case F =>
      intro w mg fa h Y G hmg0
      obtain ⟨K, KX, c⟩ := Y
      have hmg : mg ("law" : PySem.Str) = some (.ref fa) := by
        have e : (HandSHeadRun.topDef (OpenLaw.row PySem.Challenge.rw_stillpoint_k14_bytes_of_files).prog 62).name = ("law" : PySem.Str) := by kernel_rfl
        rw [← e]
        exact hmg0
      have T : SP.Tx K mg := SP.tx_of KX G (c _ (by simp [SP.chs])) (c _ (by simp [SP.chs])) (c _ (by simp [SP.chs]))
      have e := hmg.symm.trans T.g_law
      cases e
      obtain ⟨fd, F⟩ := T.d_law
      have b := L2.FunD.bindsA (ps := ["_law_script"]) F fun _ _ _ _ _ _ us hl => match us, hl with | [_], _ => rfl
      exact ⟨K, KX, fd, [], SP.sp_law K, fun _ z => (List.not_mem_nil z).elim, fun _ z => (List.not_mem_nil z).elim, fun _ z => (List.not_mem_nil z).elim, fun s v => b s [v] rfl, fun H a ns hl hb _ hS => ⟨a, ns, rfl, hS, hl, fun _ => rfl⟩, fun base _ _ _ => SP.all_law T F⟩
