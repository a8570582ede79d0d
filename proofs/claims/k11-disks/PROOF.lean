import PyProof.Rows.All
import Wide.All
import OpenK.AllK
import Wide.FinOn
import KE.KStateDown
import HandS.ForMost
import HandS.Exc
import HandS.TryOnly
import HandS.TryMany
import HandS.ExcOwn
import HandS.Defaults
import HandS.WordsExc
import HandS.HotCalls
import HandS.HeadHook2
import HandS.TupMul
import HandS.TupAny
import HandS.Wide
import HandS.Deep
import HandS.ExcIs
import HandS.IsInst
import Lean
import HandS.Head0
import HandS.Head1
import HandS.Head2
import HandS.HeadEnd
import HandS.HeadHook1
import HandS.HeadHook3
import HandS.HeadHook4
import HandS.EndTab
import HandS.HeadWalk
import PySem.Challenge.RW_stillpoint_k11_disks
set_option Elab.async false
set_option linter.all false
set_option maxRecDepth 100000
set_option maxHeartbeats 4000000
/-! Own rules over the layer: calls whose raise is wished at the slots; constants of the module. -/
namespace SP
open PySem PySem.Spec PyProof.Rows L2

/-! ### calls by a wish W -/
section
variable {X : Cx} {k : Nat} {f C : Addr} {fd : FuncData} {ps : List Str} {sp : Sp} {W : WX} {x m : Str} {p pos apos : Pos} {e o : Expr} {es : List Expr} {ta : TE} {t : TA}
abbrev OkX (X : Cx) (k : Nat) (f : Addr) (fd : FuncData) (ps : List Str) (sp : Sp) : Prop := FnOk X.prog X.w X.K X.mg X.base (L2.CX X.prog X.w) k f fd ps sp
def tCallW (sp : Sp) (W : WX) (t : TA) : TE := fun σ H Q => t σ H fun vs H1 => sp vs H1 Q fun c d H2 => W c d σ H2
theorem pe_callW (F : OkX X k f fd ps sp) (hr : Room k X.A) (hm : X.mg x = some (.ref f)) (hk : PySem.W.keepIn X.K (.ref f) = true) (hb : Binds X.K fd ps []) (tk : Takes X W)
    (ha : PA X (e :: es) t) (hg : Gl X x := by rfl) (hdb : (x == ("__debug__" : Str)) = false := by decide) (he : starEach (e :: es) X.env = (false, eval e X.env) :: starEach es X.env := by rfl) (hpl : (backTo pos (starEach es X.env)).any (·.1) = false := by rfl) :
    PE X (.Call (.Name x p) (e :: es) [] pos) (tCallW sp W t) := pe_callS F hr hg hm hk hb (fun σ => passAt tk σ) ha hdb he hpl
theorem pe_callW0 (F : OkX X k f fd ps sp) (hr : Room k X.A) (hm : X.mg x = some (.ref f)) (hk : PySem.W.keepIn X.K (.ref f) = true) (hb : Binds X.K fd ps []) (tk : Takes X W)
    (hg : Gl X x := by rfl) (hdb : (x == ("__debug__" : Str)) = false := by decide) :
    PE X (.Call (.Name x p) [] [] pos) (tCallW sp W tNil) := by
  refine ⟨fun pins s σ H Q I h => ?_⟩
  refine wpAny_Call_Name_kw (ld_glob I hg hm ?_ hdb)
  exact PySem.W.callWith_K0 I.kIn hk (run_fnS (us := []) F hr hb (passAt tk σ) I .nil h)
def tMethW (C : Addr) (m : Str) (sp : Sp) (W : WX) (ta : TE) (t : TA) : TE := fun σ H Q => ta σ H fun x H1 => ∃ a dx fs, x = .ref a ∧ H1 a = some (.ins C dx fs) ∧ fs.lookup m = none ∧ t σ H1 fun vs H2 => sp (x :: vs) H2 Q fun c d H3 => W c d σ H3
theorem pe_methW {pl : Sem Bool} (he : PE X o ta) (c : Cls X.K C) (hm : Meth X.K C m f) (F : OkX X k f fd ps sp) (hr : Room k X.A) (hb : Binds X.K fd ps []) (tk : Takes X W) (ha : PA X (e :: es) t)
    (hst : starEach (e :: es) X.env = (false, eval e X.env) :: starEach es X.env := by rfl) (hpl : (backTo pos (starEach es X.env)).any (·.1) = false := by rfl)
    (ht : eval (.Call (.Attribute o m apos) (e :: es) [] pos) X.env = (do
      let ov ← eval o X.env
      standAt apos.atName
      let (f, first) ← holding [ov] (getMethod ov m pl)
      callWith pos f first (backTo pos (starEach (e :: es) X.env)) (backToKw pos (keywordEach [] X.env))) := by rfl) :
    PE X (.Call (.Attribute o m apos) (e :: es) [] pos) (tMethW C m sp W ta t) := by
  refine ⟨fun pins s σ H Q I h => ?_⟩
  refine PySem.W.methodCall_KW (pl := pl) (thn (he.run pins s σ H _ I h) fun u s1 ⟨x, H1, I1, rx, a, dx, fs, ex, ea, l, q⟩ => ?_) ht
  subst ex
  obtain rfl : u = Value.ref a := rx
  refine getmeth_ok I1 ea c hm l ?_
  refine PySem.W.callWith_K (first := [.ref a]) (h₀ := X.base) I.ok.mod.kin hm.kp (thn (ha.run pos pins s1 σ H1 _ I1 q) fun us s2 ⟨vs, H2, I2, r, q2⟩ => ⟨I2.kIn, ?_⟩) hst hpl
  exact run_fnS (us := .ref a :: us) (vs := .ref a :: vs) F hr hb (passAt tk σ) I2 (.cons rfl r) q2
theorem pe_methW0 {pl : Sem Bool} (he : PE X o ta) (c : Cls X.K C) (hm : Meth X.K C m f) (F : OkX X k f fd ps sp) (hr : Room k X.A) (hb : Binds X.K fd ps []) (tk : Takes X W)
    (ht : eval (.Call (.Attribute o m apos) [] [] pos) X.env = (do
      let ov ← eval o X.env
      standAt apos.atName
      let (f, first) ← holding [ov] (getMethod ov m pl)
      callWith pos f first (backTo pos (starEach [] X.env)) (backToKw pos (keywordEach [] X.env))) := by rfl) :
    PE X (.Call (.Attribute o m apos) [] [] pos) (tMethW C m sp W ta tNil) := by
  refine ⟨fun pins s σ H Q I h => ?_⟩
  refine PySem.W.methodCall_KW (pl := pl) (thn (he.run pins s σ H _ I h) fun u s1 ⟨x, H1, I1, rx, a, dx, fs, ex, ea, l, q⟩ => ?_) ht
  subst ex
  obtain rfl : u = Value.ref a := rx
  refine getmeth_ok I1 ea c hm l ?_
  exact PySem.W.callWith_K0 (first := [.ref a]) I1.kIn hm.kp (run_fnS (us := [.ref a]) (vs := [.ref a]) F hr hb (passAt tk σ) I1 (.cons rfl .nil) q)
/-- a new instance's promise: __init__'s at the fresh x -/
def tMakeW (C : Addr) (sp : Sp) (W : WX) (t : TA) : TE := fun σ H Q => t σ H fun vs H1 => ∀ x dx, H1 x = none → H1 dx = none → dx ≠ x →
  sp (.ref x :: vs) (upd (upd H1 dx (.own x)) x (.ins C dx [])) (fun v H2 => v = .non ∧ Q (.ref x) H2) fun c d H2 => W c d σ H2
theorem run_makeW {pins : List (Addr × Obj)} {σ : L2.St} {H : Hp} {s : Shared} {Q : VK} {us : List Value} {vs : List V} (M : Mk X.K C f) (F : OkX X k f fd ps sp) (hr : Room (k + 1) X.A) (hb : Binds X.K fd ps [])
    (tk : Takes X W) (I : Inv X pins σ H s) (r : Vals vs us)
    (h : ∀ x dx, H x = none → H dx = none → dx ≠ x → sp (.ref x :: vs) (upd (upd H dx (.own x)) x (.ins C dx [])) (fun v H2 => v = .non ∧ Q (.ref x) H2) fun c d H2 => W c d σ H2) :
    wpAny (model X.prog X.w) X.A (call (.ref C) us) (EP X pins σ Q) X.xe s := by
  have hq := h (s.heap.objs.size + 1) s.heap.objs.size (I.hok.fresh (Nat.le_succ _)) (I.hok.fresh (Nat.le_refl _)) (Nat.ne_of_lt (Nat.lt_succ_self _))
  have I2 := Inv.made (C := C) I
  have r2 : Vals (V.ref (s.heap.objs.size + 1) :: vs) (Value.ref (s.heap.objs.size + 1) :: us) := .cons rfl r
  have hl : (Value.ref (s.heap.objs.size + 1) :: us).length = ps.length := by
    have e := r2.length
    rw [F.len _ _ _ _ hq] at e
    exact e.symm
  have b := hb { s with heap := (s.heap.push (PySem.W.instObj C s.heap.objs.size)) } (Value.ref (s.heap.objs.size + 1) :: us)
  refine wpAny_call (make_map (f := f) I.kIn M.makes M.init (beq_iff_eq.mp M.fn) (codeAny_mono (F.run _ X.stack _ _ ⟨Value.ref (s.heap.objs.size + 1) :: us, []⟩ (Value.ref (s.heap.objs.size + 1) :: us) _ _ (fun c d H2 => W c d σ H2) (hr.make C us [])
    (I2.env0.make C us []) (by have z := hb _ (Value.ref (s.heap.objs.size + 1) :: us) I2.kIn (by rw [List.append_nil]; exact hl); rw [List.append_nil] at z; exact z) r2 hq) fun r s' hq' => ?_))
  cases r with
  | error e => exact passAt tk σ pins _ _ e s' I2 hq'
  | ok fl =>
    cases fl with
    | ret u =>
      obtain ⟨v, H', I3, rv, ev, q3⟩ := I2.after hq'
      subst ev
      exact ⟨rv, ⟨V.ref (s.heap.objs.size + 1), H', I3, rfl, q3⟩⟩
    | next => exact False.elim hq'
    | brk => exact False.elim hq'
    | cont => exact False.elim hq'
theorem pe_makeW (M : Mk X.K C f) (F : OkX X k f fd ps sp) (hr : Room (k + 1) X.A) (hm : X.mg x = some (.ref C)) (hb : Binds X.K fd ps []) (tk : Takes X W)
    (ha : PA X (e :: es) t) (hg : Gl X x := by rfl) (hdb : (x == ("__debug__" : Str)) = false := by decide) (he : starEach (e :: es) X.env = (false, eval e X.env) :: starEach es X.env := by rfl) (hpl : (backTo pos (starEach es X.env)).any (·.1) = false := by rfl) :
    PE X (.Call (.Name x p) (e :: es) [] pos) (tMakeW C sp W t) := by
  refine ⟨fun pins s σ H Q I h => ?_⟩
  refine wpAny_Call_Name_kw (ld_glob I hg hm ?_ hdb)
  refine PySem.W.callWith_K (h₀ := X.base) I.ok.mod.kin M.kp (thn (ha.run pos pins s σ H _ I h) fun us s1 ⟨vs, H1, I1, r, q⟩ => ⟨I1.kIn, ?_⟩) he hpl
  exact run_makeW M F hr hb tk I1 r q
end
/-! ### constants of the module -/
section
variable {X : Cx} {x : Str} {pos : Pos}
theorem pe_gint {n : Int} (hm : ∃ t, X.mg x = some (.int n t)) (hg : Gl X x := by rfl) (hd : (x == ("__debug__" : Str)) = false := by decide) : PE X (.Name x pos) (tC (.int n)) :=
  let ⟨t, h⟩ := hm
  pe_glob hg h ⟨t, rfl⟩ hd
theorem pe_gstr {z : Str} (hm : ∃ t, X.mg x = some (.str z t)) (hg : Gl X x := by rfl) (hd : (x == ("__debug__" : Str)) = false := by decide) : PE X (.Name x pos) (tC (.str z)) :=
  let ⟨t, h⟩ := hm
  pe_glob hg h ⟨t, rfl⟩ hd
theorem pe_gref {a : Addr} (hm : X.mg x = some (.ref a)) (hg : Gl X x := by rfl) (hd : (x == ("__debug__" : Str)) = false := by decide) : PE X (.Name x pos) (tC (.ref a)) :=
  pe_glob hg hm rfl hd
end
/-! ### raising -/
def tRaiseW (W : WX) (c : Addr) : TS := fun _ σ H => W (.ref c) none σ H
structure ExcX (K : PySem.W.Frag) (mg : Str → Option Value) (x : Str) : Prop where
  g : mg x = some (.ref (He.ga K x))
  xx : PySem.W.excIn K (He.ga K x) He.veBase "ValueError.__new__" = true
  k : PySem.W.keepIn K (.ref (He.ga K x)) = true
  s : PySem.W.subIn K (.ref (He.ga K x)) (.type "BaseException") = some true
  t : PySem.W.typeIn K (.ref (He.ga K x)) = some (.type "type")
theorem ps_raiseW {X : Cx} {W : WX} {x m : Str} {j : Nat} {p p2 pos pos2 : Pos} (hc : X.calm = true) (tk : Takes X W) (E : ExcX X.K X.mg x) (hg : Gl X x := by rfl) (hd : (x == ("__debug__" : Str)) = false := by decide) :
    PS X (.Raise (some (.Call (.Name x p) [.Constant (.str m) j p2] [] pos)) none pos2) (tRaiseW W (He.ga X.K x)) :=
  ps_raise hc tk (pmk_own PySem.F.excBase_ValueError E.xx E.g E.k (raises_own E.s E.t) hg (hdb := hd))
end SP

set_option Elab.async false
set_option linter.all false
set_option maxRecDepth 100000
set_option maxHeartbeats 4000000
/-! Plain data, heaps cut and extended, what stands in a heap. -/
namespace SP
open PySem PySem.Spec PyProof.Rows L2

/-! ### tables: lists of pairs, as dicts keep them -/
section
variable {κ β : Type} [DecidableEq κ]
def lk (l : List (κ × β)) (k : κ) : Option β := (l.find? fun kv => decide (kv.1 = k)).map (·.2)
def pt (l : List (κ × β)) (k : κ) (v : β) : List (κ × β) :=
  if (l.any fun kv => decide (kv.1 = k)) = true then l.map (fun kv => if kv.1 = k then (kv.1, v) else kv) else l ++ [(k, v)]
def dp (l : List (κ × β)) (k : κ) : List (κ × β) := l.filter fun kv => decide (kv.1 ≠ k)
theorem lk_nil (k : κ) : lk ([] : List (κ × β)) k = none := rfl
theorem lk_cons (a : κ) (b : β) (l : List (κ × β)) (k : κ) : lk ((a, b) :: l) k = if a = k then some b else lk l k := by
  unfold lk
  rw [List.find?_cons]
  by_cases h : a = k <;> simp [h]
theorem lk_any (k : κ) : ∀ l : List (κ × β), (l.any fun kv => decide (kv.1 = k)) = (lk l k).isSome
  | [] => rfl
  | (a, b) :: r => by
    rw [List.any_cons, lk_cons, lk_any k r]
    by_cases h : a = k <;> simp [h]
theorem lk_mem {k : κ} {v : β} : ∀ {l : List (κ × β)}, lk l k = some v → (k, v) ∈ l
  | [], h => by cases h
  | (a, b) :: r, h => by
    rw [lk_cons] at h
    by_cases e : a = k
    · rw [if_pos e] at h
      cases h
      subst e
      exact List.mem_cons_self
    · rw [if_neg e] at h
      exact List.mem_cons_of_mem _ (lk_mem h)
theorem lk_none {k : κ} : ∀ {l : List (κ × β)}, lk l k = none ↔ k ∉ l.map (·.1)
  | [] => by simp [lk_nil]
  | (a, b) :: r => by
    rw [lk_cons]
    by_cases e : a = k
    · simp [e]
    · rw [if_neg e, lk_none (l := r)]
      simp only [List.map_cons, List.mem_cons, not_or]
      exact ⟨fun h => ⟨fun z => e z.symm, h⟩, fun h => h.2⟩
theorem lk_of_mem {k : κ} {v : β} : ∀ {l : List (κ × β)}, (l.map (·.1)).Nodup → (k, v) ∈ l → lk l k = some v
  | [], _, h => by cases h
  | (a, b) :: r, nd, h => by
    rw [lk_cons]
    rw [List.map_cons, List.nodup_cons] at nd
    rcases List.mem_cons.mp h with e | e
    · cases e
      exact if_pos rfl
    · have hk : k ∈ r.map (·.1) := List.mem_map.mpr ⟨_, e, rfl⟩
      rw [if_neg (fun z => nd.1 (by rw [z]; exact hk))]
      exact lk_of_mem nd.2 e
theorem pt_new {l : List (κ × β)} {k : κ} (v : β) (h : lk l k = none) : pt l k v = l ++ [(k, v)] := by
  unfold pt
  rw [lk_any, h]
  exact if_neg Bool.false_ne_true
theorem pt_old {l : List (κ × β)} {k : κ} {u : β} (v : β) (h : lk l k = some u) : pt l k v = l.map (fun kv => if kv.1 = k then (kv.1, v) else kv) := by
  unfold pt
  rw [lk_any, h]
  exact if_pos rfl
theorem lk_map (k j : κ) (y : β) : ∀ l : List (κ × β), lk (l.map fun kv => if kv.1 = k then (kv.1, y) else kv) j = (lk l j).map fun x => if j = k then y else x
  | [] => rfl
  | (a, b) :: r => by
    have ih := lk_map k j y r
    rw [List.map_cons]
    by_cases e : a = k
    · rw [if_pos e, lk_cons, lk_cons, ih]
      by_cases e2 : a = j
      · rw [if_pos e2, if_pos e2, Option.map_some, if_pos (e2.symm.trans e)]
      · rw [if_neg e2, if_neg e2]
    · rw [if_neg e, lk_cons, lk_cons, ih]
      by_cases e2 : a = j
      · rw [if_pos e2, if_pos e2, Option.map_some, if_neg (fun z => e (e2.trans z))]
      · rw [if_neg e2, if_neg e2]
theorem lk_snoc (l : List (κ × β)) (k j : κ) (y : β) : lk (l ++ [(k, y)]) j = (lk l j).or (if k = j then some y else none) := by
  induction l with
  | nil => rw [List.nil_append, lk_cons, lk_nil]; simp [lk_nil]
  | cons p r ih =>
    obtain ⟨a, b⟩ := p
    rw [List.cons_append, lk_cons, lk_cons, ih]
    by_cases e : a = j <;> simp [e]
theorem lk_pt (l : List (κ × β)) (k j : κ) (y : β) : lk (pt l k y) j = if j = k then some y else lk l j := by
  cases h : lk l k with
  | none =>
    rw [pt_new y h, lk_snoc]
    by_cases e : j = k
    · subst e
      simp [h]
    · have e2 : ¬ k = j := fun z => e z.symm
      simp [e, e2]
  | some u =>
    rw [pt_old y h, lk_map]
    by_cases e : j = k
    · subst e
      simp [h]
    · simp only [e, if_false]
      cases lk l j <;> rfl
theorem lk_dp (l : List (κ × β)) (k j : κ) : lk (dp l k) j = if j = k then none else lk l j := by
  induction l with
  | nil => simp [dp, lk_nil]
  | cons p r ih =>
    obtain ⟨a, b⟩ := p
    unfold dp at ih ⊢
    rw [List.filter_cons]
    by_cases e : a = k
    · subst e
      have z : decide ((a, b).1 ≠ a) = false := by simp
      rw [if_neg (by rw [z]; decide), ih, lk_cons]
      by_cases e2 : j = a
      · simp [e2]
      · have e3 : ¬ a = j := fun z => e2 z.symm
        simp [e2, e3]
    · have z : decide ((a, b).1 ≠ k) = true := by simp [e]
      rw [if_pos z, lk_cons, lk_cons, ih]
      by_cases e2 : a = j
      · subst e2
        simp [e]
      · simp [e2]
theorem keys_pt_old {l : List (κ × β)} {k : κ} {u : β} (v : β) (h : lk l k = some u) : (pt l k v).map (·.1) = l.map (·.1) := by
  rw [pt_old v h, List.map_map]
  refine List.map_congr_left fun p _ => ?_
  show (if p.1 = k then (p.1, v) else p).1 = p.1
  split <;> rfl
theorem nd_pt {l : List (κ × β)} {k : κ} (v : β) (nd : (l.map (·.1)).Nodup) : ((pt l k v).map (·.1)).Nodup := by
  cases h : lk l k with
  | none =>
    rw [pt_new v h, List.map_append]
    refine List.nodup_append.mpr ⟨nd, by simp, fun a ha b hb => ?_⟩
    have eb : b = k := by simpa using hb
    subst eb
    exact fun z => (lk_none.mp h) (by rw [← z]; exact ha)
  | some u =>
    rw [keys_pt_old v h]
    exact nd
theorem nd_dp {l : List (κ × β)} {k : κ} (nd : (l.map (·.1)).Nodup) : ((dp l k).map (·.1)).Nodup :=
  nd.sublist (List.Sublist.map _ List.filter_sublist)
theorem mem_dp {l : List (κ × β)} {k : κ} {p : κ × β} : p ∈ dp l k ↔ p ∈ l ∧ p.1 ≠ k := by
  unfold dp
  rw [List.mem_filter, decide_eq_true_eq]
theorem dp_none {l : List (κ × β)} {k : κ} (h : lk l k = none) : dp l k = l := by
  unfold dp
  refine List.filter_eq_self.mpr fun p hp => decide_eq_true fun z => (lk_none.mp h) ?_
  rw [← z]
  exact List.mem_map.mpr ⟨p, hp, rfl⟩
theorem dp_len {l : List (κ × β)} {k : κ} {v : β} (nd : (l.map (·.1)).Nodup) (h : lk l k = some v) : (dp l k).length + 1 = l.length := by
  induction l with
  | nil => cases h
  | cons p r ih =>
    obtain ⟨a, b⟩ := p
    rw [List.map_cons, List.nodup_cons] at nd
    rw [lk_cons] at h
    by_cases e : a = k
    · subst e
      have z : dp ((a, b) :: r) a = r := by
        unfold dp
        rw [List.filter_cons, if_neg (by simp)]
        have := dp_none (l := r) (k := a) (lk_none.mpr nd.1)
        unfold dp at this
        exact this
      rw [z]
      rfl
    · rw [if_neg e] at h
      have := ih nd.2 h
      have z : dp ((a, b) :: r) k = (a, b) :: dp r k := by
        unfold dp
        rw [List.filter_cons, if_pos (by simp [e])]
      rw [z, List.length_cons, List.length_cons, this]
theorem pt_len_old {l : List (κ × β)} {k : κ} {u : β} (v : β) (h : lk l k = some u) : (pt l k v).length = l.length := by
  rw [pt_old v h, List.length_map]
theorem pt_len_new {l : List (κ × β)} {k : κ} (v : β) (h : lk l k = none) : (pt l k v).length = l.length + 1 := by
  rw [pt_new v h, List.length_append]
  rfl
end

/-! ### heaps -/
/-- to be read as before: all stands, but a dict may be locked -/
def Le (H H' : Hp) : Prop := ∀ a o, H a = some o → H' a = some o ∨ ∃ kvs od, o = .dK kvs ∧ H' a = some (.frz od o)
theorem Le.refl (H : Hp) : Le H H := fun _ _ h => .inl h
theorem Le.trans {H H1 H2 : Hp} (a : Le H H1) (b : Le H1 H2) : Le H H2 := fun x o h => by
  rcases a x o h with h1 | ⟨kvs, od, rfl, h1⟩
  · exact b x o h1
  · rcases b x _ h1 with h2 | ⟨_, _, e, _⟩
    · exact .inr ⟨kvs, od, rfl, h2⟩
    · cases e
theorem Same.le {H H' : Hp} (e : Same H H') : Le H H' := fun a o h => .inl (e a o h)
theorem Le.lock {H : Hp} {d : Addr} {kvs : List (Key × V)} (h : H d = some (.dK kvs)) (od : Obj) : Le H (upd H d (.frz od (.dK kvs))) := fun a o e => by
  by_cases q : a = d
  · subst q
    rw [h] at e
    cases e
    exact .inr ⟨kvs, od, rfl, upd_same⟩
  · rw [upd_ne q]
    exact .inl e
theorem Le.lst {H H' : Hp} {a : Addr} {xs : List V} (e : Le H H') (h : H a = some (.lst xs)) : H' a = some (.lst xs) := by
  rcases e a _ h with h | ⟨_, _, z, _⟩
  · exact h
  · cases z
theorem Le.tup {H H' : Hp} {a : Addr} {xs : List V} (e : Le H H') (h : H a = some (.tup xs)) : H' a = some (.tup xs) := by
  rcases e a _ h with h | ⟨_, _, z, _⟩
  · exact h
  · cases z
theorem Le.ins {H H' : Hp} {a C dx : Addr} {fs : List (Str × V)} (e : Le H H') (h : H a = some (.ins C dx fs)) : H' a = some (.ins C dx fs) := by
  rcases e a _ h with h | ⟨_, _, z, _⟩
  · exact h
  · cases z
theorem Le.rd {H H' : Hp} {a : Addr} {kvs : List (Key × V)} (e : Le H H') (h : Rd H a (.dK kvs)) : Rd H' a (.dK kvs) := by
  rcases h with h | ⟨o, h⟩
  · rcases e a _ h with h | ⟨_, od, z, h⟩
    · exact .inl h
    · exact .inr ⟨od, h⟩
  · rcases e a _ h with h | ⟨_, _, z, _⟩
    · exact .inr ⟨o, h⟩
    · cases z
theorem Le.rdL {H H' : Hp} {a : Addr} {xs : List V} (e : Le H H') (h : Rd H a (.lst xs)) : Rd H' a (.lst xs) := by
  rcases h with h | ⟨o, h⟩
  · exact .inl (e.lst h)
  · rcases e a _ h with h | ⟨_, _, z, _⟩
    · exact .inr ⟨o, h⟩
    · cases z
theorem Le.rdT {H H' : Hp} {a : Addr} {xs : List V} (e : Le H H') (h : Rd H a (.tup xs)) : Rd H' a (.tup xs) := by
  rcases h with h | ⟨o, h⟩
  · exact .inl (e.tup h)
  · rcases e a _ h with h | ⟨_, _, z, _⟩
    · exact .inr ⟨o, h⟩
    · cases z
theorem Le.sql {K : PySem.W.Frag} {H H' : Hp} {a : Addr} {xs : List V} (e : Le H H') (h : SqL K H a xs) : SqL K H' a xs := by
  rcases h with h | h
  · exact .inl (e.rdL h)
  · exact .inr h
theorem Le.sqt {K : PySem.W.Frag} {H H' : Hp} {a : Addr} {xs : List V} (e : Le H H') (h : SqT K H a xs) : SqT K H' a xs := by
  rcases h with h | h
  · exact .inl (e.rdT h)
  · exact .inr h
mutual
theorem Le.dp {K : PySem.W.Frag} {H H' : Hp} (e : Le H H') : ∀ {d : PyData} {v : V}, Dp K H v d → Dp K H' v d
  | .none, _, h => by cases h; exact .non
  | .bool b, _, h => by cases h; exact .bl b
  | .int i, _, h => by cases h; exact .int i
  | .str x, _, h => by cases h; exact .str x
  | .list ds, _, h => by
    cases h with
    | lst s a => exact .lst (e.sql s) (e.dpAll a)
  | .tuple ds, _, h => by
    cases h with
    | tup s a => exact .tup (e.sqt s) (e.dpAll a)
  | .dict _, _, h => by cases h
theorem Le.dpAll {K : PySem.W.Frag} {H H' : Hp} (e : Le H H') : ∀ {ds : List PyData} {vs : List V}, DpAll K H vs ds → DpAll K H' vs ds
  | [], _, h => by cases h; exact .nil
  | d :: ds, _, h => by
    cases h with
    | cons a b => exact .cons (e.dp a) (e.dpAll b)
end
theorem Same.new {H : Hp} {p : Addr} {o : HO} (h : H p = none) : Same H (upd H p o) := fun a u e => by
  rw [upd_ne (ne_of_none e h)]
  exact e
/-- what is new -/
def nw (H H' : Hp) : Hp := fun a => if (H a).isSome = true then none else H' a
theorem nw_le (H H' : Hp) : Le (nw H H') H' := fun a o h => by
  unfold nw at h
  split at h
  · cases h
  · exact .inl h
theorem nw_new {H H' : Hp} {a : Addr} {o : HO} (h : H a = none) (h' : H' a = some o) : nw H H' a = some o := by
  unfold nw
  rw [h, if_neg (by decide)]
  exact h'
theorem nw_none {H H' : Hp} {a : Addr} {o : HO} (h : nw H H' a = some o) : H a = none ∧ H' a = some o := by
  unfold nw at h
  split at h
  · cases h
  · rename_i q
    refine ⟨?_, h⟩
    cases e : H a with
    | none => rfl
    | some u => rw [e] at q; exact absurd rfl q
/-- what was new is new seen from before, and stays -/
theorem nw_mono {H0 H H' H'' : Hp} (b : Same H0 H) (e : Le H' H'') : Le (nw H H') (nw H0 H'') := fun a o h => by
  obtain ⟨h1, h2⟩ := nw_none h
  have h0 := b.free h1
  rcases e a o h2 with h3 | ⟨kvs, od, z, h3⟩
  · exact .inl (nw_new h0 h3)
  · exact .inr ⟨kvs, od, z, nw_new h0 h3⟩
/-- without some -/
def av (ms : List Addr) (H : Hp) : Hp := fun a => if a ∈ ms then none else H a
theorem av_le (ms : List Addr) (H : Hp) : Le (av ms H) H := fun a o h => by
  unfold av at h
  split at h
  · cases h
  · exact .inl h
theorem av_at {ms : List Addr} {H : Hp} {a : Addr} {o : HO} (h : H a = some o) (n : a ∉ ms) : av ms H a = some o := by
  unfold av
  rw [if_neg n]
  exact h
theorem av_of {ms : List Addr} {H : Hp} {a : Addr} {o : HO} (h : av ms H a = some o) : a ∉ ms ∧ H a = some o := by
  unfold av at h
  split at h
  · cases h
  · exact ⟨by assumption, h⟩
/-- all but some is as it was; a tuple never changes -/
structure Keep (ms : List Addr) (H H' : Hp) : Prop where
  k : ∀ a o, a ∉ ms → H a = some o → H' a = some o
  t : ∀ a xs, H a = some (.tup xs) → H' a = some (.tup xs)
theorem Keep.refl {ms : List Addr} {H : Hp} : Keep ms H H := ⟨fun _ _ _ h => h, fun _ _ h => h⟩
theorem Keep.of {ms : List Addr} {H H' : Hp} (e : Same H H') : Keep ms H H' := ⟨fun a o _ h => e a o h, fun a xs h => e a _ h⟩
theorem Keep.trans {ms : List Addr} {H H1 H2 : Hp} (a : Keep ms H H1) (b : Keep ms H1 H2) : Keep ms H H2 := ⟨fun x o n h => b.k x o n (a.k x o n h), fun x xs h => b.t x xs (a.t x xs h)⟩
theorem Keep.mono {ms ns : List Addr} {H H' : Hp} (e : Keep ms H H') (s : ∀ a ∈ ms, a ∈ ns) : Keep ns H H' := ⟨fun a o n h => e.k a o (fun z => n (s a z)) h, e.t⟩
theorem keepUpd {ms : List Addr} {H : Hp} {p : Addr} {o o0 : HO} (h : p ∈ ms) (h0 : H p = some o0) (hn : ∀ xs, o0 ≠ .tup xs) : Keep ms H (upd H p o) := ⟨fun a u n e => by
  rw [upd_ne (fun z => n (by rw [z]; exact h))]
  exact e, fun a xs e => by
  have z : a ≠ p := fun z => by
    rw [z, h0] at e
    exact hn xs (Option.some.inj e)
  rw [upd_ne z]
  exact e⟩
theorem Keep.av {ms : List Addr} {H H' : Hp} (e : Keep ms H H') : Le (av ms H) (av ms H') := fun a o h => by
  obtain ⟨n, h⟩ := av_of h
  exact .inl (av_at (e.k a o n h) n)
theorem Keep.av_le {ms : List Addr} {H H' : Hp} (e : Keep ms H H') : Le (SP.av ms H) H' := fun a o h => by
  obtain ⟨n, h⟩ := av_of h
  exact .inl (e.k a o n h)
/-- nothing kept but by Same where nothing is named -/
theorem Keep.same {H H' : Hp} (e : Keep [] H H') : Same H H' := fun a o h => e.k a o (by simp) h
theorem nw_av {ms : List Addr} {H H' : Hp} (h : ∀ a ∈ ms, (H a).isSome = true) : Le (nw H H') (av ms H') := fun a o e => by
  obtain ⟨h1, h2⟩ := nw_none e
  refine .inl (av_at h2 fun z => ?_)
  have q := h a z
  rw [h1] at q
  cases q
theorem av_mono {ms ns : List Addr} {H : Hp} (s : ∀ a ∈ ns, a ∈ ms) : Le (av ms H) (av ns H) := fun a o h => by
  obtain ⟨n, h⟩ := av_of h
  exact .inl (av_at h fun z => n (s a z))
theorem Same.av {ms : List Addr} {H H' : Hp} (e : Same H H') : Le (SP.av ms H) (SP.av ms H') := (Keep.of e).av
/-- the heap behind an unlocked dict -/
theorem Same.unlock {H H' : Hp} {d : Addr} {od : Obj} {kvs : List (Key × V)} (h : H d = some (.dK kvs)) (e : Same (upd H d (.frz od (.dK kvs))) H') : Same H (upd H' d (.dK kvs)) := fun a o q => by
  by_cases z : a = d
  · subst z
    rw [h] at q
    cases q
    exact upd_same
  · rw [upd_ne z]
    refine e a o ?_
    rw [upd_ne z]
    exact q
theorem lock_free {H : Hp} {d a : Addr} {od : Obj} {kvs : List (Key × V)} (h : upd H d (.frz od (.dK kvs)) a = none) : H a = none ∧ a ≠ d := by
  by_cases z : a = d
  · subst z
    rw [upd_same] at h
    cases h
  · rw [upd_ne z] at h
    exact ⟨h, z⟩
end SP

set_option Elab.async false
set_option linter.all false
set_option maxRecDepth 100000
set_option maxHeartbeats 4000000
/-! The shapes of the classes; readings and what they ask. -/
namespace SP
open PySem PySem.Spec PyProof.Rows L2

/-! ### readings, one step at a time -/
def rFld (K : PySem.W.Frag) (f : Str) : V → Hp → VK → Prop := fun x H1 Q => ∃ a C dx fs v, x = .ref a ∧ H1 a = some (.ins C dx fs) ∧ Cls K C ∧ NoAttr K C f ∧ fs.lookup f = some v ∧ Q v H1
def rSet1 (K : PySem.W.Frag) (f : Str) (y x : V) (H2 : Hp) (q : Hp → Prop) : Prop := ∃ a C dx fs, x = .ref a ∧ H2 a = some (.ins C dx fs) ∧ Cls K C ∧ NoAttr K C f ∧ fs.length < 1000 ∧ q (upd H2 a (.ins C dx (putF f y fs)))
def rMeth (C : Addr) (m : Str) (sp : Sp) (W : WX) (t : TA) (σ : L2.St) : V → Hp → VK → Prop := fun x H1 Q => ∃ a dx fs, x = .ref a ∧ H1 a = some (.ins C dx fs) ∧ fs.lookup m = none ∧ t σ H1 fun vs H2 => sp (x :: vs) H2 Q fun c d H3 => W c d σ H3
section
variable {K : PySem.W.Frag} {σ : L2.St} {H : Hp} {Q : VK} {q2 : Hp → Prop}
def fDisk (v0 v1 : V) : List (Str × V) := [("blocks", v0), ("log", v1)]
theorem lk_Disk_blocks (v0 v1 : V) : (fDisk v0 v1).lookup ("blocks" : Str) = some v0 := rfl
theorem pf_Disk_blocks (v0 v1 y : V) : putF ("blocks" : Str) y (fDisk v0 v1) = fDisk y v1 := rfl
theorem lk_Disk_log (v0 v1 : V) : (fDisk v0 v1).lookup ("log" : Str) = some v1 := rfl
theorem pf_Disk_log (v0 v1 y : V) : putF ("log" : Str) y (fDisk v0 v1) = fDisk v0 y := rfl
theorem no_Disk_read (v0 v1 : V) : (fDisk v0 v1).lookup ("read" : Str) = none := rfl
theorem no_Disk_write (v0 v1 : V) : (fDisk v0 v1).lookup ("write" : Str) = none := rfl
theorem no_Disk_barrier (v0 v1 : V) : (fDisk v0 v1).lookup ("barrier" : Str) = none := rfl
structure PxDisk (K : PySem.W.Frag) : Prop where
  c : Cls K (He.ga K "Disk")
  n_blocks : NoAttr K (He.ga K "Disk") "blocks"
  n_log : NoAttr K (He.ga K "Disk") "log"
abbrev oDisk (K : PySem.W.Frag) (dx : Addr) (v0 v1 : V) : HO := .ins (He.ga K "Disk") dx (fDisk v0 v1)
theorem x_get_Disk_blocks {v0 v1 : V} {p dx : Addr} (T : PxDisk K) (ho : H p = some (oDisk K dx v0 v1)) (q : Q v0 H) : rFld K "blocks" (.ref p) H Q :=
  ⟨p, _, dx, _, _, rfl, ho, T.c, T.n_blocks, lk_Disk_blocks .., q⟩
theorem x_set_Disk_blocks {v0 v1 y : V} {p dx : Addr} (T : PxDisk K) (ho : H p = some (oDisk K dx v0 v1)) (q : q2 (upd H p (oDisk K dx y v1))) : rSet1 K "blocks" y (.ref p) H q2 :=
  ⟨p, _, dx, _, rfl, ho, T.c, T.n_blocks, by show 2 < 1000; decide, q⟩
theorem x_get_Disk_log {v0 v1 : V} {p dx : Addr} (T : PxDisk K) (ho : H p = some (oDisk K dx v0 v1)) (q : Q v1 H) : rFld K "log" (.ref p) H Q :=
  ⟨p, _, dx, _, _, rfl, ho, T.c, T.n_log, lk_Disk_log .., q⟩
theorem x_set_Disk_log {v0 v1 y : V} {p dx : Addr} (T : PxDisk K) (ho : H p = some (oDisk K dx v0 v1)) (q : q2 (upd H p (oDisk K dx v0 y))) : rSet1 K "log" y (.ref p) H q2 :=
  ⟨p, _, dx, _, rfl, ho, T.c, T.n_log, by show 2 < 1000; decide, q⟩
theorem i_set_Disk_blocks {y : V} {p dx : Addr} (T : PxDisk K) (ho : H p = some (.ins (He.ga K "Disk") dx [])) (q : q2 (upd H p (.ins (He.ga K "Disk") dx [("blocks", y)]))) : rSet1 K "blocks" y (.ref p) H q2 :=
  ⟨p, _, dx, _, rfl, ho, T.c, T.n_blocks, by show 0 < 1000; decide, q⟩
theorem i_set_Disk_log {v0 y : V} {p dx : Addr} (T : PxDisk K) (ho : H p = some (.ins (He.ga K "Disk") dx [("blocks", v0)])) (q : q2 (upd H p (.ins (He.ga K "Disk") dx [("blocks", v0), ("log", y)]))) : rSet1 K "log" y (.ref p) H q2 :=
  ⟨p, _, dx, _, rfl, ho, T.c, T.n_log, by show 1 < 1000; decide, q⟩
theorem x_meth_Disk_read {v0 v1 : V} {p dx : Addr} {sp : Sp} {W : WX} {t : TA} (ho : H p = some (oDisk K dx v0 v1)) (q : t σ H fun vs H2 => sp (.ref p :: vs) H2 Q fun c d H3 => W c d σ H3) : rMeth (He.ga K "Disk") "read" sp W t σ (.ref p) H Q :=
  ⟨p, dx, _, rfl, ho, no_Disk_read .., q⟩
theorem x_meth_Disk_write {v0 v1 : V} {p dx : Addr} {sp : Sp} {W : WX} {t : TA} (ho : H p = some (oDisk K dx v0 v1)) (q : t σ H fun vs H2 => sp (.ref p :: vs) H2 Q fun c d H3 => W c d σ H3) : rMeth (He.ga K "Disk") "write" sp W t σ (.ref p) H Q :=
  ⟨p, dx, _, rfl, ho, no_Disk_write .., q⟩
theorem x_meth_Disk_barrier {v0 v1 : V} {p dx : Addr} {sp : Sp} {W : WX} {t : TA} (ho : H p = some (oDisk K dx v0 v1)) (q : t σ H fun vs H2 => sp (.ref p :: vs) H2 Q fun c d H3 => W c d σ H3) : rMeth (He.ga K "Disk") "barrier" sp W t σ (.ref p) H Q :=
  ⟨p, dx, _, rfl, ho, no_Disk_barrier .., q⟩
def fThing (v0 v1 v2 : V) : List (Str × V) := [("kind", v0), ("held", v1), ("entries", v2)]
theorem lk_Thing_kind (v0 v1 v2 : V) : (fThing v0 v1 v2).lookup ("kind" : Str) = some v0 := rfl
theorem pf_Thing_kind (v0 v1 v2 y : V) : putF ("kind" : Str) y (fThing v0 v1 v2) = fThing y v1 v2 := rfl
theorem lk_Thing_held (v0 v1 v2 : V) : (fThing v0 v1 v2).lookup ("held" : Str) = some v1 := rfl
theorem pf_Thing_held (v0 v1 v2 y : V) : putF ("held" : Str) y (fThing v0 v1 v2) = fThing v0 y v2 := rfl
theorem lk_Thing_entries (v0 v1 v2 : V) : (fThing v0 v1 v2).lookup ("entries" : Str) = some v2 := rfl
theorem pf_Thing_entries (v0 v1 v2 y : V) : putF ("entries" : Str) y (fThing v0 v1 v2) = fThing v0 v1 y := rfl
structure PxThing (K : PySem.W.Frag) : Prop where
  c : Cls K (He.ga K "Thing")
  n_kind : NoAttr K (He.ga K "Thing") "kind"
  n_held : NoAttr K (He.ga K "Thing") "held"
  n_entries : NoAttr K (He.ga K "Thing") "entries"
abbrev oThing (K : PySem.W.Frag) (dx : Addr) (v0 v1 v2 : V) : HO := .ins (He.ga K "Thing") dx (fThing v0 v1 v2)
theorem x_get_Thing_kind {v0 v1 v2 : V} {p dx : Addr} (T : PxThing K) (ho : H p = some (oThing K dx v0 v1 v2)) (q : Q v0 H) : rFld K "kind" (.ref p) H Q :=
  ⟨p, _, dx, _, _, rfl, ho, T.c, T.n_kind, lk_Thing_kind .., q⟩
theorem x_set_Thing_kind {v0 v1 v2 y : V} {p dx : Addr} (T : PxThing K) (ho : H p = some (oThing K dx v0 v1 v2)) (q : q2 (upd H p (oThing K dx y v1 v2))) : rSet1 K "kind" y (.ref p) H q2 :=
  ⟨p, _, dx, _, rfl, ho, T.c, T.n_kind, by show 3 < 1000; decide, q⟩
theorem x_get_Thing_held {v0 v1 v2 : V} {p dx : Addr} (T : PxThing K) (ho : H p = some (oThing K dx v0 v1 v2)) (q : Q v1 H) : rFld K "held" (.ref p) H Q :=
  ⟨p, _, dx, _, _, rfl, ho, T.c, T.n_held, lk_Thing_held .., q⟩
theorem x_set_Thing_held {v0 v1 v2 y : V} {p dx : Addr} (T : PxThing K) (ho : H p = some (oThing K dx v0 v1 v2)) (q : q2 (upd H p (oThing K dx v0 y v2))) : rSet1 K "held" y (.ref p) H q2 :=
  ⟨p, _, dx, _, rfl, ho, T.c, T.n_held, by show 3 < 1000; decide, q⟩
theorem x_get_Thing_entries {v0 v1 v2 : V} {p dx : Addr} (T : PxThing K) (ho : H p = some (oThing K dx v0 v1 v2)) (q : Q v2 H) : rFld K "entries" (.ref p) H Q :=
  ⟨p, _, dx, _, _, rfl, ho, T.c, T.n_entries, lk_Thing_entries .., q⟩
theorem x_set_Thing_entries {v0 v1 v2 y : V} {p dx : Addr} (T : PxThing K) (ho : H p = some (oThing K dx v0 v1 v2)) (q : q2 (upd H p (oThing K dx v0 v1 y))) : rSet1 K "entries" y (.ref p) H q2 :=
  ⟨p, _, dx, _, rfl, ho, T.c, T.n_entries, by show 3 < 1000; decide, q⟩
theorem i_set_Thing_kind {y : V} {p dx : Addr} (T : PxThing K) (ho : H p = some (.ins (He.ga K "Thing") dx [])) (q : q2 (upd H p (.ins (He.ga K "Thing") dx [("kind", y)]))) : rSet1 K "kind" y (.ref p) H q2 :=
  ⟨p, _, dx, _, rfl, ho, T.c, T.n_kind, by show 0 < 1000; decide, q⟩
theorem i_set_Thing_held {v0 y : V} {p dx : Addr} (T : PxThing K) (ho : H p = some (.ins (He.ga K "Thing") dx [("kind", v0)])) (q : q2 (upd H p (.ins (He.ga K "Thing") dx [("kind", v0), ("held", y)]))) : rSet1 K "held" y (.ref p) H q2 :=
  ⟨p, _, dx, _, rfl, ho, T.c, T.n_held, by show 1 < 1000; decide, q⟩
theorem i_set_Thing_entries {v0 v1 y : V} {p dx : Addr} (T : PxThing K) (ho : H p = some (.ins (He.ga K "Thing") dx [("kind", v0), ("held", v1)])) (q : q2 (upd H p (.ins (He.ga K "Thing") dx [("kind", v0), ("held", v1), ("entries", y)]))) : rSet1 K "entries" y (.ref p) H q2 :=
  ⟨p, _, dx, _, rfl, ho, T.c, T.n_entries, by show 2 < 1000; decide, q⟩
def fReader (v0 v1 v2 : V) : List (Str × V) := [("row", v0), ("at", v1), ("good", v2)]
theorem lk_Reader_row (v0 v1 v2 : V) : (fReader v0 v1 v2).lookup ("row" : Str) = some v0 := rfl
theorem pf_Reader_row (v0 v1 v2 y : V) : putF ("row" : Str) y (fReader v0 v1 v2) = fReader y v1 v2 := rfl
theorem lk_Reader_at (v0 v1 v2 : V) : (fReader v0 v1 v2).lookup ("at" : Str) = some v1 := rfl
theorem pf_Reader_at (v0 v1 v2 y : V) : putF ("at" : Str) y (fReader v0 v1 v2) = fReader v0 y v2 := rfl
theorem lk_Reader_good (v0 v1 v2 : V) : (fReader v0 v1 v2).lookup ("good" : Str) = some v2 := rfl
theorem pf_Reader_good (v0 v1 v2 y : V) : putF ("good" : Str) y (fReader v0 v1 v2) = fReader v0 v1 y := rfl
theorem no_Reader_byte (v0 v1 v2 : V) : (fReader v0 v1 v2).lookup ("byte" : Str) = none := rfl
theorem no_Reader_text (v0 v1 v2 : V) : (fReader v0 v1 v2).lookup ("text" : Str) = none := rfl
theorem no_Reader_file_bytes (v0 v1 v2 : V) : (fReader v0 v1 v2).lookup ("file_bytes" : Str) = none := rfl
theorem no_Reader_dir_entries (v0 v1 v2 : V) : (fReader v0 v1 v2).lookup ("dir_entries" : Str) = none := rfl
theorem no_Reader_whole_state (v0 v1 v2 : V) : (fReader v0 v1 v2).lookup ("whole_state" : Str) = none := rfl
structure PxReader (K : PySem.W.Frag) : Prop where
  c : Cls K (He.ga K "Reader")
  n_row : NoAttr K (He.ga K "Reader") "row"
  n_at : NoAttr K (He.ga K "Reader") "at"
  n_good : NoAttr K (He.ga K "Reader") "good"
abbrev oReader (K : PySem.W.Frag) (dx : Addr) (v0 v1 v2 : V) : HO := .ins (He.ga K "Reader") dx (fReader v0 v1 v2)
theorem x_get_Reader_row {v0 v1 v2 : V} {p dx : Addr} (T : PxReader K) (ho : H p = some (oReader K dx v0 v1 v2)) (q : Q v0 H) : rFld K "row" (.ref p) H Q :=
  ⟨p, _, dx, _, _, rfl, ho, T.c, T.n_row, lk_Reader_row .., q⟩
theorem x_set_Reader_row {v0 v1 v2 y : V} {p dx : Addr} (T : PxReader K) (ho : H p = some (oReader K dx v0 v1 v2)) (q : q2 (upd H p (oReader K dx y v1 v2))) : rSet1 K "row" y (.ref p) H q2 :=
  ⟨p, _, dx, _, rfl, ho, T.c, T.n_row, by show 3 < 1000; decide, q⟩
theorem x_get_Reader_at {v0 v1 v2 : V} {p dx : Addr} (T : PxReader K) (ho : H p = some (oReader K dx v0 v1 v2)) (q : Q v1 H) : rFld K "at" (.ref p) H Q :=
  ⟨p, _, dx, _, _, rfl, ho, T.c, T.n_at, lk_Reader_at .., q⟩
theorem x_set_Reader_at {v0 v1 v2 y : V} {p dx : Addr} (T : PxReader K) (ho : H p = some (oReader K dx v0 v1 v2)) (q : q2 (upd H p (oReader K dx v0 y v2))) : rSet1 K "at" y (.ref p) H q2 :=
  ⟨p, _, dx, _, rfl, ho, T.c, T.n_at, by show 3 < 1000; decide, q⟩
theorem x_get_Reader_good {v0 v1 v2 : V} {p dx : Addr} (T : PxReader K) (ho : H p = some (oReader K dx v0 v1 v2)) (q : Q v2 H) : rFld K "good" (.ref p) H Q :=
  ⟨p, _, dx, _, _, rfl, ho, T.c, T.n_good, lk_Reader_good .., q⟩
theorem x_set_Reader_good {v0 v1 v2 y : V} {p dx : Addr} (T : PxReader K) (ho : H p = some (oReader K dx v0 v1 v2)) (q : q2 (upd H p (oReader K dx v0 v1 y))) : rSet1 K "good" y (.ref p) H q2 :=
  ⟨p, _, dx, _, rfl, ho, T.c, T.n_good, by show 3 < 1000; decide, q⟩
theorem i_set_Reader_row {y : V} {p dx : Addr} (T : PxReader K) (ho : H p = some (.ins (He.ga K "Reader") dx [])) (q : q2 (upd H p (.ins (He.ga K "Reader") dx [("row", y)]))) : rSet1 K "row" y (.ref p) H q2 :=
  ⟨p, _, dx, _, rfl, ho, T.c, T.n_row, by show 0 < 1000; decide, q⟩
theorem i_set_Reader_at {v0 y : V} {p dx : Addr} (T : PxReader K) (ho : H p = some (.ins (He.ga K "Reader") dx [("row", v0)])) (q : q2 (upd H p (.ins (He.ga K "Reader") dx [("row", v0), ("at", y)]))) : rSet1 K "at" y (.ref p) H q2 :=
  ⟨p, _, dx, _, rfl, ho, T.c, T.n_at, by show 1 < 1000; decide, q⟩
theorem i_set_Reader_good {v0 v1 y : V} {p dx : Addr} (T : PxReader K) (ho : H p = some (.ins (He.ga K "Reader") dx [("row", v0), ("at", v1)])) (q : q2 (upd H p (.ins (He.ga K "Reader") dx [("row", v0), ("at", v1), ("good", y)]))) : rSet1 K "good" y (.ref p) H q2 :=
  ⟨p, _, dx, _, rfl, ho, T.c, T.n_good, by show 2 < 1000; decide, q⟩
theorem x_meth_Reader_byte {v0 v1 v2 : V} {p dx : Addr} {sp : Sp} {W : WX} {t : TA} (ho : H p = some (oReader K dx v0 v1 v2)) (q : t σ H fun vs H2 => sp (.ref p :: vs) H2 Q fun c d H3 => W c d σ H3) : rMeth (He.ga K "Reader") "byte" sp W t σ (.ref p) H Q :=
  ⟨p, dx, _, rfl, ho, no_Reader_byte .., q⟩
theorem x_meth_Reader_text {v0 v1 v2 : V} {p dx : Addr} {sp : Sp} {W : WX} {t : TA} (ho : H p = some (oReader K dx v0 v1 v2)) (q : t σ H fun vs H2 => sp (.ref p :: vs) H2 Q fun c d H3 => W c d σ H3) : rMeth (He.ga K "Reader") "text" sp W t σ (.ref p) H Q :=
  ⟨p, dx, _, rfl, ho, no_Reader_text .., q⟩
theorem x_meth_Reader_file_bytes {v0 v1 v2 : V} {p dx : Addr} {sp : Sp} {W : WX} {t : TA} (ho : H p = some (oReader K dx v0 v1 v2)) (q : t σ H fun vs H2 => sp (.ref p :: vs) H2 Q fun c d H3 => W c d σ H3) : rMeth (He.ga K "Reader") "file_bytes" sp W t σ (.ref p) H Q :=
  ⟨p, dx, _, rfl, ho, no_Reader_file_bytes .., q⟩
theorem x_meth_Reader_dir_entries {v0 v1 v2 : V} {p dx : Addr} {sp : Sp} {W : WX} {t : TA} (ho : H p = some (oReader K dx v0 v1 v2)) (q : t σ H fun vs H2 => sp (.ref p :: vs) H2 Q fun c d H3 => W c d σ H3) : rMeth (He.ga K "Reader") "dir_entries" sp W t σ (.ref p) H Q :=
  ⟨p, dx, _, rfl, ho, no_Reader_dir_entries .., q⟩
theorem x_meth_Reader_whole_state {v0 v1 v2 : V} {p dx : Addr} {sp : Sp} {W : WX} {t : TA} (ho : H p = some (oReader K dx v0 v1 v2)) (q : t σ H fun vs H2 => sp (.ref p :: vs) H2 Q fun c d H3 => W c d σ H3) : rMeth (He.ga K "Reader") "whole_state" sp W t σ (.ref p) H Q :=
  ⟨p, dx, _, rfl, ho, no_Reader_whole_state .., q⟩
def fFiles (v0 v1 v2 v3 v4 v5 v6 : V) : List (Str × V) := [("disk", v0), ("state", v1), ("kept", v2), ("slot", v3), ("turn", v4), ("used", v5), ("is_new", v6)]
theorem lk_Files_disk (v0 v1 v2 v3 v4 v5 v6 : V) : (fFiles v0 v1 v2 v3 v4 v5 v6).lookup ("disk" : Str) = some v0 := rfl
theorem pf_Files_disk (v0 v1 v2 v3 v4 v5 v6 y : V) : putF ("disk" : Str) y (fFiles v0 v1 v2 v3 v4 v5 v6) = fFiles y v1 v2 v3 v4 v5 v6 := rfl
theorem lk_Files_state (v0 v1 v2 v3 v4 v5 v6 : V) : (fFiles v0 v1 v2 v3 v4 v5 v6).lookup ("state" : Str) = some v1 := rfl
theorem pf_Files_state (v0 v1 v2 v3 v4 v5 v6 y : V) : putF ("state" : Str) y (fFiles v0 v1 v2 v3 v4 v5 v6) = fFiles v0 y v2 v3 v4 v5 v6 := rfl
theorem lk_Files_kept (v0 v1 v2 v3 v4 v5 v6 : V) : (fFiles v0 v1 v2 v3 v4 v5 v6).lookup ("kept" : Str) = some v2 := rfl
theorem pf_Files_kept (v0 v1 v2 v3 v4 v5 v6 y : V) : putF ("kept" : Str) y (fFiles v0 v1 v2 v3 v4 v5 v6) = fFiles v0 v1 y v3 v4 v5 v6 := rfl
theorem lk_Files_slot (v0 v1 v2 v3 v4 v5 v6 : V) : (fFiles v0 v1 v2 v3 v4 v5 v6).lookup ("slot" : Str) = some v3 := rfl
theorem pf_Files_slot (v0 v1 v2 v3 v4 v5 v6 y : V) : putF ("slot" : Str) y (fFiles v0 v1 v2 v3 v4 v5 v6) = fFiles v0 v1 v2 y v4 v5 v6 := rfl
theorem lk_Files_turn (v0 v1 v2 v3 v4 v5 v6 : V) : (fFiles v0 v1 v2 v3 v4 v5 v6).lookup ("turn" : Str) = some v4 := rfl
theorem pf_Files_turn (v0 v1 v2 v3 v4 v5 v6 y : V) : putF ("turn" : Str) y (fFiles v0 v1 v2 v3 v4 v5 v6) = fFiles v0 v1 v2 v3 y v5 v6 := rfl
theorem lk_Files_used (v0 v1 v2 v3 v4 v5 v6 : V) : (fFiles v0 v1 v2 v3 v4 v5 v6).lookup ("used" : Str) = some v5 := rfl
theorem pf_Files_used (v0 v1 v2 v3 v4 v5 v6 y : V) : putF ("used" : Str) y (fFiles v0 v1 v2 v3 v4 v5 v6) = fFiles v0 v1 v2 v3 v4 y v6 := rfl
theorem lk_Files_is_new (v0 v1 v2 v3 v4 v5 v6 : V) : (fFiles v0 v1 v2 v3 v4 v5 v6).lookup ("is_new" : Str) = some v6 := rfl
theorem pf_Files_is_new (v0 v1 v2 v3 v4 v5 v6 y : V) : putF ("is_new" : Str) y (fFiles v0 v1 v2 v3 v4 v5 v6) = fFiles v0 v1 v2 v3 v4 v5 y := rfl
theorem no_Files_may_write (v0 v1 v2 v3 v4 v5 v6 : V) : (fFiles v0 v1 v2 v3 v4 v5 v6).lookup ("may_write" : Str) = none := rfl
theorem no_Files_become (v0 v1 v2 v3 v4 v5 v6 : V) : (fFiles v0 v1 v2 v3 v4 v5 v6).lookup ("become" : Str) = none := rfl
theorem no_Files_file_at (v0 v1 v2 v3 v4 v5 v6 : V) : (fFiles v0 v1 v2 v3 v4 v5 v6).lookup ("file_at" : Str) = none := rfl
theorem no_Files_find (v0 v1 v2 v3 v4 v5 v6 : V) : (fFiles v0 v1 v2 v3 v4 v5 v6).lookup ("find" : Str) = none := rfl
theorem no_Files_place_for (v0 v1 v2 v3 v4 v5 v6 : V) : (fFiles v0 v1 v2 v3 v4 v5 v6).lookup ("place_for" : Str) = none := rfl
theorem no_Files_make (v0 v1 v2 v3 v4 v5 v6 : V) : (fFiles v0 v1 v2 v3 v4 v5 v6).lookup ("make" : Str) = none := rfl
theorem no_Files_link (v0 v1 v2 v3 v4 v5 v6 : V) : (fFiles v0 v1 v2 v3 v4 v5 v6).lookup ("link" : Str) = none := rfl
theorem no_Files_unlink (v0 v1 v2 v3 v4 v5 v6 : V) : (fFiles v0 v1 v2 v3 v4 v5 v6).lookup ("unlink" : Str) = none := rfl
theorem no_Files_may_replace (v0 v1 v2 v3 v4 v5 v6 : V) : (fFiles v0 v1 v2 v3 v4 v5 v6).lookup ("may_replace" : Str) = none := rfl
theorem no_Files_rename (v0 v1 v2 v3 v4 v5 v6 : V) : (fFiles v0 v1 v2 v3 v4 v5 v6).lookup ("rename" : Str) = none := rfl
theorem no_Files_read (v0 v1 v2 v3 v4 v5 v6 : V) : (fFiles v0 v1 v2 v3 v4 v5 v6).lookup ("read" : Str) = none := rfl
theorem no_Files_write (v0 v1 v2 v3 v4 v5 v6 : V) : (fFiles v0 v1 v2 v3 v4 v5 v6).lookup ("write" : Str) = none := rfl
theorem no_Files_cut (v0 v1 v2 v3 v4 v5 v6 : V) : (fFiles v0 v1 v2 v3 v4 v5 v6).lookup ("cut" : Str) = none := rfl
theorem no_Files_stat (v0 v1 v2 v3 v4 v5 v6 : V) : (fFiles v0 v1 v2 v3 v4 v5 v6).lookup ("stat" : Str) = none := rfl
theorem no_Files_names (v0 v1 v2 v3 v4 v5 v6 : V) : (fFiles v0 v1 v2 v3 v4 v5 v6).lookup ("names" : Str) = none := rfl
theorem no_Files_sync (v0 v1 v2 v3 v4 v5 v6 : V) : (fFiles v0 v1 v2 v3 v4 v5 v6).lookup ("sync" : Str) = none := rfl
theorem no_Files_write_all (v0 v1 v2 v3 v4 v5 v6 : V) : (fFiles v0 v1 v2 v3 v4 v5 v6).lookup ("write_all" : Str) = none := rfl
theorem no_Files_snap (v0 v1 v2 v3 v4 v5 v6 : V) : (fFiles v0 v1 v2 v3 v4 v5 v6).lookup ("snap" : Str) = none := rfl
theorem no_Files_need_snap (v0 v1 v2 v3 v4 v5 v6 : V) : (fFiles v0 v1 v2 v3 v4 v5 v6).lookup ("need_snap" : Str) = none := rfl
theorem no_Files_unsnap (v0 v1 v2 v3 v4 v5 v6 : V) : (fFiles v0 v1 v2 v3 v4 v5 v6).lookup ("unsnap" : Str) = none := rfl
theorem no_Files_see (v0 v1 v2 v3 v4 v5 v6 : V) : (fFiles v0 v1 v2 v3 v4 v5 v6).lookup ("see" : Str) = none := rfl
theorem no_Files_snaps (v0 v1 v2 v3 v4 v5 v6 : V) : (fFiles v0 v1 v2 v3 v4 v5 v6).lookup ("snaps" : Str) = none := rfl
structure PxFiles (K : PySem.W.Frag) : Prop where
  c : Cls K (He.ga K "Files")
  n_disk : NoAttr K (He.ga K "Files") "disk"
  n_state : NoAttr K (He.ga K "Files") "state"
  n_kept : NoAttr K (He.ga K "Files") "kept"
  n_slot : NoAttr K (He.ga K "Files") "slot"
  n_turn : NoAttr K (He.ga K "Files") "turn"
  n_used : NoAttr K (He.ga K "Files") "used"
  n_is_new : NoAttr K (He.ga K "Files") "is_new"
abbrev oFiles (K : PySem.W.Frag) (dx : Addr) (v0 v1 v2 v3 v4 v5 v6 : V) : HO := .ins (He.ga K "Files") dx (fFiles v0 v1 v2 v3 v4 v5 v6)
theorem x_get_Files_disk {v0 v1 v2 v3 v4 v5 v6 : V} {p dx : Addr} (T : PxFiles K) (ho : H p = some (oFiles K dx v0 v1 v2 v3 v4 v5 v6)) (q : Q v0 H) : rFld K "disk" (.ref p) H Q :=
  ⟨p, _, dx, _, _, rfl, ho, T.c, T.n_disk, lk_Files_disk .., q⟩
theorem x_set_Files_disk {v0 v1 v2 v3 v4 v5 v6 y : V} {p dx : Addr} (T : PxFiles K) (ho : H p = some (oFiles K dx v0 v1 v2 v3 v4 v5 v6)) (q : q2 (upd H p (oFiles K dx y v1 v2 v3 v4 v5 v6))) : rSet1 K "disk" y (.ref p) H q2 :=
  ⟨p, _, dx, _, rfl, ho, T.c, T.n_disk, by show 7 < 1000; decide, q⟩
theorem x_get_Files_state {v0 v1 v2 v3 v4 v5 v6 : V} {p dx : Addr} (T : PxFiles K) (ho : H p = some (oFiles K dx v0 v1 v2 v3 v4 v5 v6)) (q : Q v1 H) : rFld K "state" (.ref p) H Q :=
  ⟨p, _, dx, _, _, rfl, ho, T.c, T.n_state, lk_Files_state .., q⟩
theorem x_set_Files_state {v0 v1 v2 v3 v4 v5 v6 y : V} {p dx : Addr} (T : PxFiles K) (ho : H p = some (oFiles K dx v0 v1 v2 v3 v4 v5 v6)) (q : q2 (upd H p (oFiles K dx v0 y v2 v3 v4 v5 v6))) : rSet1 K "state" y (.ref p) H q2 :=
  ⟨p, _, dx, _, rfl, ho, T.c, T.n_state, by show 7 < 1000; decide, q⟩
theorem x_get_Files_kept {v0 v1 v2 v3 v4 v5 v6 : V} {p dx : Addr} (T : PxFiles K) (ho : H p = some (oFiles K dx v0 v1 v2 v3 v4 v5 v6)) (q : Q v2 H) : rFld K "kept" (.ref p) H Q :=
  ⟨p, _, dx, _, _, rfl, ho, T.c, T.n_kept, lk_Files_kept .., q⟩
theorem x_set_Files_kept {v0 v1 v2 v3 v4 v5 v6 y : V} {p dx : Addr} (T : PxFiles K) (ho : H p = some (oFiles K dx v0 v1 v2 v3 v4 v5 v6)) (q : q2 (upd H p (oFiles K dx v0 v1 y v3 v4 v5 v6))) : rSet1 K "kept" y (.ref p) H q2 :=
  ⟨p, _, dx, _, rfl, ho, T.c, T.n_kept, by show 7 < 1000; decide, q⟩
theorem x_get_Files_slot {v0 v1 v2 v3 v4 v5 v6 : V} {p dx : Addr} (T : PxFiles K) (ho : H p = some (oFiles K dx v0 v1 v2 v3 v4 v5 v6)) (q : Q v3 H) : rFld K "slot" (.ref p) H Q :=
  ⟨p, _, dx, _, _, rfl, ho, T.c, T.n_slot, lk_Files_slot .., q⟩
theorem x_set_Files_slot {v0 v1 v2 v3 v4 v5 v6 y : V} {p dx : Addr} (T : PxFiles K) (ho : H p = some (oFiles K dx v0 v1 v2 v3 v4 v5 v6)) (q : q2 (upd H p (oFiles K dx v0 v1 v2 y v4 v5 v6))) : rSet1 K "slot" y (.ref p) H q2 :=
  ⟨p, _, dx, _, rfl, ho, T.c, T.n_slot, by show 7 < 1000; decide, q⟩
theorem x_get_Files_turn {v0 v1 v2 v3 v4 v5 v6 : V} {p dx : Addr} (T : PxFiles K) (ho : H p = some (oFiles K dx v0 v1 v2 v3 v4 v5 v6)) (q : Q v4 H) : rFld K "turn" (.ref p) H Q :=
  ⟨p, _, dx, _, _, rfl, ho, T.c, T.n_turn, lk_Files_turn .., q⟩
theorem x_set_Files_turn {v0 v1 v2 v3 v4 v5 v6 y : V} {p dx : Addr} (T : PxFiles K) (ho : H p = some (oFiles K dx v0 v1 v2 v3 v4 v5 v6)) (q : q2 (upd H p (oFiles K dx v0 v1 v2 v3 y v5 v6))) : rSet1 K "turn" y (.ref p) H q2 :=
  ⟨p, _, dx, _, rfl, ho, T.c, T.n_turn, by show 7 < 1000; decide, q⟩
theorem x_get_Files_used {v0 v1 v2 v3 v4 v5 v6 : V} {p dx : Addr} (T : PxFiles K) (ho : H p = some (oFiles K dx v0 v1 v2 v3 v4 v5 v6)) (q : Q v5 H) : rFld K "used" (.ref p) H Q :=
  ⟨p, _, dx, _, _, rfl, ho, T.c, T.n_used, lk_Files_used .., q⟩
theorem x_set_Files_used {v0 v1 v2 v3 v4 v5 v6 y : V} {p dx : Addr} (T : PxFiles K) (ho : H p = some (oFiles K dx v0 v1 v2 v3 v4 v5 v6)) (q : q2 (upd H p (oFiles K dx v0 v1 v2 v3 v4 y v6))) : rSet1 K "used" y (.ref p) H q2 :=
  ⟨p, _, dx, _, rfl, ho, T.c, T.n_used, by show 7 < 1000; decide, q⟩
theorem x_get_Files_is_new {v0 v1 v2 v3 v4 v5 v6 : V} {p dx : Addr} (T : PxFiles K) (ho : H p = some (oFiles K dx v0 v1 v2 v3 v4 v5 v6)) (q : Q v6 H) : rFld K "is_new" (.ref p) H Q :=
  ⟨p, _, dx, _, _, rfl, ho, T.c, T.n_is_new, lk_Files_is_new .., q⟩
theorem x_set_Files_is_new {v0 v1 v2 v3 v4 v5 v6 y : V} {p dx : Addr} (T : PxFiles K) (ho : H p = some (oFiles K dx v0 v1 v2 v3 v4 v5 v6)) (q : q2 (upd H p (oFiles K dx v0 v1 v2 v3 v4 v5 y))) : rSet1 K "is_new" y (.ref p) H q2 :=
  ⟨p, _, dx, _, rfl, ho, T.c, T.n_is_new, by show 7 < 1000; decide, q⟩
theorem i_set_Files_disk {y : V} {p dx : Addr} (T : PxFiles K) (ho : H p = some (.ins (He.ga K "Files") dx [])) (q : q2 (upd H p (.ins (He.ga K "Files") dx [("disk", y)]))) : rSet1 K "disk" y (.ref p) H q2 :=
  ⟨p, _, dx, _, rfl, ho, T.c, T.n_disk, by show 0 < 1000; decide, q⟩
theorem i_set_Files_state {v0 y : V} {p dx : Addr} (T : PxFiles K) (ho : H p = some (.ins (He.ga K "Files") dx [("disk", v0)])) (q : q2 (upd H p (.ins (He.ga K "Files") dx [("disk", v0), ("state", y)]))) : rSet1 K "state" y (.ref p) H q2 :=
  ⟨p, _, dx, _, rfl, ho, T.c, T.n_state, by show 1 < 1000; decide, q⟩
theorem i_set_Files_kept {v0 v1 y : V} {p dx : Addr} (T : PxFiles K) (ho : H p = some (.ins (He.ga K "Files") dx [("disk", v0), ("state", v1)])) (q : q2 (upd H p (.ins (He.ga K "Files") dx [("disk", v0), ("state", v1), ("kept", y)]))) : rSet1 K "kept" y (.ref p) H q2 :=
  ⟨p, _, dx, _, rfl, ho, T.c, T.n_kept, by show 2 < 1000; decide, q⟩
theorem i_set_Files_slot {v0 v1 v2 y : V} {p dx : Addr} (T : PxFiles K) (ho : H p = some (.ins (He.ga K "Files") dx [("disk", v0), ("state", v1), ("kept", v2)])) (q : q2 (upd H p (.ins (He.ga K "Files") dx [("disk", v0), ("state", v1), ("kept", v2), ("slot", y)]))) : rSet1 K "slot" y (.ref p) H q2 :=
  ⟨p, _, dx, _, rfl, ho, T.c, T.n_slot, by show 3 < 1000; decide, q⟩
theorem i_set_Files_turn {v0 v1 v2 v3 y : V} {p dx : Addr} (T : PxFiles K) (ho : H p = some (.ins (He.ga K "Files") dx [("disk", v0), ("state", v1), ("kept", v2), ("slot", v3)])) (q : q2 (upd H p (.ins (He.ga K "Files") dx [("disk", v0), ("state", v1), ("kept", v2), ("slot", v3), ("turn", y)]))) : rSet1 K "turn" y (.ref p) H q2 :=
  ⟨p, _, dx, _, rfl, ho, T.c, T.n_turn, by show 4 < 1000; decide, q⟩
theorem i_set_Files_used {v0 v1 v2 v3 v4 y : V} {p dx : Addr} (T : PxFiles K) (ho : H p = some (.ins (He.ga K "Files") dx [("disk", v0), ("state", v1), ("kept", v2), ("slot", v3), ("turn", v4)])) (q : q2 (upd H p (.ins (He.ga K "Files") dx [("disk", v0), ("state", v1), ("kept", v2), ("slot", v3), ("turn", v4), ("used", y)]))) : rSet1 K "used" y (.ref p) H q2 :=
  ⟨p, _, dx, _, rfl, ho, T.c, T.n_used, by show 5 < 1000; decide, q⟩
theorem i_set_Files_is_new {v0 v1 v2 v3 v4 v5 y : V} {p dx : Addr} (T : PxFiles K) (ho : H p = some (.ins (He.ga K "Files") dx [("disk", v0), ("state", v1), ("kept", v2), ("slot", v3), ("turn", v4), ("used", v5)])) (q : q2 (upd H p (.ins (He.ga K "Files") dx [("disk", v0), ("state", v1), ("kept", v2), ("slot", v3), ("turn", v4), ("used", v5), ("is_new", y)]))) : rSet1 K "is_new" y (.ref p) H q2 :=
  ⟨p, _, dx, _, rfl, ho, T.c, T.n_is_new, by show 6 < 1000; decide, q⟩
theorem x_meth_Files_may_write {v0 v1 v2 v3 v4 v5 v6 : V} {p dx : Addr} {sp : Sp} {W : WX} {t : TA} (ho : H p = some (oFiles K dx v0 v1 v2 v3 v4 v5 v6)) (q : t σ H fun vs H2 => sp (.ref p :: vs) H2 Q fun c d H3 => W c d σ H3) : rMeth (He.ga K "Files") "may_write" sp W t σ (.ref p) H Q :=
  ⟨p, dx, _, rfl, ho, no_Files_may_write .., q⟩
theorem x_meth_Files_become {v0 v1 v2 v3 v4 v5 v6 : V} {p dx : Addr} {sp : Sp} {W : WX} {t : TA} (ho : H p = some (oFiles K dx v0 v1 v2 v3 v4 v5 v6)) (q : t σ H fun vs H2 => sp (.ref p :: vs) H2 Q fun c d H3 => W c d σ H3) : rMeth (He.ga K "Files") "become" sp W t σ (.ref p) H Q :=
  ⟨p, dx, _, rfl, ho, no_Files_become .., q⟩
theorem x_meth_Files_file_at {v0 v1 v2 v3 v4 v5 v6 : V} {p dx : Addr} {sp : Sp} {W : WX} {t : TA} (ho : H p = some (oFiles K dx v0 v1 v2 v3 v4 v5 v6)) (q : t σ H fun vs H2 => sp (.ref p :: vs) H2 Q fun c d H3 => W c d σ H3) : rMeth (He.ga K "Files") "file_at" sp W t σ (.ref p) H Q :=
  ⟨p, dx, _, rfl, ho, no_Files_file_at .., q⟩
theorem x_meth_Files_find {v0 v1 v2 v3 v4 v5 v6 : V} {p dx : Addr} {sp : Sp} {W : WX} {t : TA} (ho : H p = some (oFiles K dx v0 v1 v2 v3 v4 v5 v6)) (q : t σ H fun vs H2 => sp (.ref p :: vs) H2 Q fun c d H3 => W c d σ H3) : rMeth (He.ga K "Files") "find" sp W t σ (.ref p) H Q :=
  ⟨p, dx, _, rfl, ho, no_Files_find .., q⟩
theorem x_meth_Files_place_for {v0 v1 v2 v3 v4 v5 v6 : V} {p dx : Addr} {sp : Sp} {W : WX} {t : TA} (ho : H p = some (oFiles K dx v0 v1 v2 v3 v4 v5 v6)) (q : t σ H fun vs H2 => sp (.ref p :: vs) H2 Q fun c d H3 => W c d σ H3) : rMeth (He.ga K "Files") "place_for" sp W t σ (.ref p) H Q :=
  ⟨p, dx, _, rfl, ho, no_Files_place_for .., q⟩
theorem x_meth_Files_make {v0 v1 v2 v3 v4 v5 v6 : V} {p dx : Addr} {sp : Sp} {W : WX} {t : TA} (ho : H p = some (oFiles K dx v0 v1 v2 v3 v4 v5 v6)) (q : t σ H fun vs H2 => sp (.ref p :: vs) H2 Q fun c d H3 => W c d σ H3) : rMeth (He.ga K "Files") "make" sp W t σ (.ref p) H Q :=
  ⟨p, dx, _, rfl, ho, no_Files_make .., q⟩
theorem x_meth_Files_link {v0 v1 v2 v3 v4 v5 v6 : V} {p dx : Addr} {sp : Sp} {W : WX} {t : TA} (ho : H p = some (oFiles K dx v0 v1 v2 v3 v4 v5 v6)) (q : t σ H fun vs H2 => sp (.ref p :: vs) H2 Q fun c d H3 => W c d σ H3) : rMeth (He.ga K "Files") "link" sp W t σ (.ref p) H Q :=
  ⟨p, dx, _, rfl, ho, no_Files_link .., q⟩
theorem x_meth_Files_unlink {v0 v1 v2 v3 v4 v5 v6 : V} {p dx : Addr} {sp : Sp} {W : WX} {t : TA} (ho : H p = some (oFiles K dx v0 v1 v2 v3 v4 v5 v6)) (q : t σ H fun vs H2 => sp (.ref p :: vs) H2 Q fun c d H3 => W c d σ H3) : rMeth (He.ga K "Files") "unlink" sp W t σ (.ref p) H Q :=
  ⟨p, dx, _, rfl, ho, no_Files_unlink .., q⟩
theorem x_meth_Files_may_replace {v0 v1 v2 v3 v4 v5 v6 : V} {p dx : Addr} {sp : Sp} {W : WX} {t : TA} (ho : H p = some (oFiles K dx v0 v1 v2 v3 v4 v5 v6)) (q : t σ H fun vs H2 => sp (.ref p :: vs) H2 Q fun c d H3 => W c d σ H3) : rMeth (He.ga K "Files") "may_replace" sp W t σ (.ref p) H Q :=
  ⟨p, dx, _, rfl, ho, no_Files_may_replace .., q⟩
theorem x_meth_Files_rename {v0 v1 v2 v3 v4 v5 v6 : V} {p dx : Addr} {sp : Sp} {W : WX} {t : TA} (ho : H p = some (oFiles K dx v0 v1 v2 v3 v4 v5 v6)) (q : t σ H fun vs H2 => sp (.ref p :: vs) H2 Q fun c d H3 => W c d σ H3) : rMeth (He.ga K "Files") "rename" sp W t σ (.ref p) H Q :=
  ⟨p, dx, _, rfl, ho, no_Files_rename .., q⟩
theorem x_meth_Files_read {v0 v1 v2 v3 v4 v5 v6 : V} {p dx : Addr} {sp : Sp} {W : WX} {t : TA} (ho : H p = some (oFiles K dx v0 v1 v2 v3 v4 v5 v6)) (q : t σ H fun vs H2 => sp (.ref p :: vs) H2 Q fun c d H3 => W c d σ H3) : rMeth (He.ga K "Files") "read" sp W t σ (.ref p) H Q :=
  ⟨p, dx, _, rfl, ho, no_Files_read .., q⟩
theorem x_meth_Files_write {v0 v1 v2 v3 v4 v5 v6 : V} {p dx : Addr} {sp : Sp} {W : WX} {t : TA} (ho : H p = some (oFiles K dx v0 v1 v2 v3 v4 v5 v6)) (q : t σ H fun vs H2 => sp (.ref p :: vs) H2 Q fun c d H3 => W c d σ H3) : rMeth (He.ga K "Files") "write" sp W t σ (.ref p) H Q :=
  ⟨p, dx, _, rfl, ho, no_Files_write .., q⟩
theorem x_meth_Files_cut {v0 v1 v2 v3 v4 v5 v6 : V} {p dx : Addr} {sp : Sp} {W : WX} {t : TA} (ho : H p = some (oFiles K dx v0 v1 v2 v3 v4 v5 v6)) (q : t σ H fun vs H2 => sp (.ref p :: vs) H2 Q fun c d H3 => W c d σ H3) : rMeth (He.ga K "Files") "cut" sp W t σ (.ref p) H Q :=
  ⟨p, dx, _, rfl, ho, no_Files_cut .., q⟩
theorem x_meth_Files_stat {v0 v1 v2 v3 v4 v5 v6 : V} {p dx : Addr} {sp : Sp} {W : WX} {t : TA} (ho : H p = some (oFiles K dx v0 v1 v2 v3 v4 v5 v6)) (q : t σ H fun vs H2 => sp (.ref p :: vs) H2 Q fun c d H3 => W c d σ H3) : rMeth (He.ga K "Files") "stat" sp W t σ (.ref p) H Q :=
  ⟨p, dx, _, rfl, ho, no_Files_stat .., q⟩
theorem x_meth_Files_names {v0 v1 v2 v3 v4 v5 v6 : V} {p dx : Addr} {sp : Sp} {W : WX} {t : TA} (ho : H p = some (oFiles K dx v0 v1 v2 v3 v4 v5 v6)) (q : t σ H fun vs H2 => sp (.ref p :: vs) H2 Q fun c d H3 => W c d σ H3) : rMeth (He.ga K "Files") "names" sp W t σ (.ref p) H Q :=
  ⟨p, dx, _, rfl, ho, no_Files_names .., q⟩
theorem x_meth_Files_sync {v0 v1 v2 v3 v4 v5 v6 : V} {p dx : Addr} {sp : Sp} {W : WX} {t : TA} (ho : H p = some (oFiles K dx v0 v1 v2 v3 v4 v5 v6)) (q : t σ H fun vs H2 => sp (.ref p :: vs) H2 Q fun c d H3 => W c d σ H3) : rMeth (He.ga K "Files") "sync" sp W t σ (.ref p) H Q :=
  ⟨p, dx, _, rfl, ho, no_Files_sync .., q⟩
theorem x_meth_Files_write_all {v0 v1 v2 v3 v4 v5 v6 : V} {p dx : Addr} {sp : Sp} {W : WX} {t : TA} (ho : H p = some (oFiles K dx v0 v1 v2 v3 v4 v5 v6)) (q : t σ H fun vs H2 => sp (.ref p :: vs) H2 Q fun c d H3 => W c d σ H3) : rMeth (He.ga K "Files") "write_all" sp W t σ (.ref p) H Q :=
  ⟨p, dx, _, rfl, ho, no_Files_write_all .., q⟩
theorem x_meth_Files_snap {v0 v1 v2 v3 v4 v5 v6 : V} {p dx : Addr} {sp : Sp} {W : WX} {t : TA} (ho : H p = some (oFiles K dx v0 v1 v2 v3 v4 v5 v6)) (q : t σ H fun vs H2 => sp (.ref p :: vs) H2 Q fun c d H3 => W c d σ H3) : rMeth (He.ga K "Files") "snap" sp W t σ (.ref p) H Q :=
  ⟨p, dx, _, rfl, ho, no_Files_snap .., q⟩
theorem x_meth_Files_need_snap {v0 v1 v2 v3 v4 v5 v6 : V} {p dx : Addr} {sp : Sp} {W : WX} {t : TA} (ho : H p = some (oFiles K dx v0 v1 v2 v3 v4 v5 v6)) (q : t σ H fun vs H2 => sp (.ref p :: vs) H2 Q fun c d H3 => W c d σ H3) : rMeth (He.ga K "Files") "need_snap" sp W t σ (.ref p) H Q :=
  ⟨p, dx, _, rfl, ho, no_Files_need_snap .., q⟩
theorem x_meth_Files_unsnap {v0 v1 v2 v3 v4 v5 v6 : V} {p dx : Addr} {sp : Sp} {W : WX} {t : TA} (ho : H p = some (oFiles K dx v0 v1 v2 v3 v4 v5 v6)) (q : t σ H fun vs H2 => sp (.ref p :: vs) H2 Q fun c d H3 => W c d σ H3) : rMeth (He.ga K "Files") "unsnap" sp W t σ (.ref p) H Q :=
  ⟨p, dx, _, rfl, ho, no_Files_unsnap .., q⟩
theorem x_meth_Files_see {v0 v1 v2 v3 v4 v5 v6 : V} {p dx : Addr} {sp : Sp} {W : WX} {t : TA} (ho : H p = some (oFiles K dx v0 v1 v2 v3 v4 v5 v6)) (q : t σ H fun vs H2 => sp (.ref p :: vs) H2 Q fun c d H3 => W c d σ H3) : rMeth (He.ga K "Files") "see" sp W t σ (.ref p) H Q :=
  ⟨p, dx, _, rfl, ho, no_Files_see .., q⟩
theorem x_meth_Files_snaps {v0 v1 v2 v3 v4 v5 v6 : V} {p dx : Addr} {sp : Sp} {W : WX} {t : TA} (ho : H p = some (oFiles K dx v0 v1 v2 v3 v4 v5 v6)) (q : t σ H fun vs H2 => sp (.ref p :: vs) H2 Q fun c d H3 => W c d σ H3) : rMeth (He.ga K "Files") "snaps" sp W t σ (.ref p) H Q :=
  ⟨p, dx, _, rfl, ho, no_Files_snaps .., q⟩
end
end SP

set_option Elab.async false
set_option linter.all false
set_option maxRecDepth 100000
set_option maxHeartbeats 4000000
/-! Readings by name, and what each asks, one step at a time. -/
namespace SP
open PySem PySem.Spec PyProof.Rows L2

/-! ### operators by name -/
abbrev rAddI : R2 := rI0 fun i j => .int (i + j)
abbrev rSubI : R2 := rI0 fun i j => .int (i - j)
abbrev rMulI : R2 := rI CMul fun i j => .int (i * j)
abbrev rMulX : R2 := rI CMulW fun i j => .int (i * j)
abbrev rDivI : R2 := rI CDiv fun i j => .int (i / j)
abbrev rModI : R2 := rI (fun _ j => 0 < j) fun i j => .int (i % j)
abbrev rShl : R2 := rI CPow fun i j => .int (i * 2 ^ j.toNat)
def rAddS : R2 := fun x y H Q => ∃ i j, x = .str i ∧ y = .str j ∧ i.length + j.length ≤ sizeLine ∧ Q (.str (i ++ j)) H
theorem op_addS {X : Cx} : OpR X (binaryOp .Add) rAddS := op_add_str
abbrev rLtI : R2 := rI0 fun i j => .bl (decide (i < j))
abbrev rLeI : R2 := rI0 fun i j => .bl (decide (i ≤ j))
abbrev rGtI : R2 := rI0 fun i j => .bl (decide (j < i))
abbrev rGeI : R2 := rI0 fun i j => .bl (decide (j ≤ i))
def rIsN : R2 := fun x y H Q => y = .non ∧ Q (.bl (decide (x = .non))) H
def rNotN : R2 := fun x y H Q => y = .non ∧ Q (.bl (!decide (x = .non))) H
theorem op_isNn {X : Cx} : OpR X (compareOp .Is) rIsN := op_isN
theorem op_notNn {X : Cx} : OpR X (compareOp .IsNot) rNotN := op_notN
def rInS : R2 := fun x y H Q => ∃ (c : Nat) (z : Str), x = .str ⟨#[c]⟩ ∧ y = .str z ∧ Q (.bl (decide (c ∈ z.cps.toList))) H
theorem op_inSn {X : Cx} : OpR X (compareOp .In) rInS := op_in_sign
abbrev rInQ (K : PySem.W.Frag) : R2 := rIn K false
abbrev rNiQ (K : PySem.W.Frag) : R2 := rIn K true
def rNegI : V → Hp → VK → Prop := rU fun i => .int (-i)
theorem un_negn {X : Cx} : UnR X (unaryOp .USub) rNegI := un_neg
/-! calls of built-ins by name -/
def cLenD : List V → Hp → VK → Prop := fun xs H Q => ∃ a kvs, xs = [V.ref a] ∧ H a = some (.dK kvs) ∧ Q (.int kvs.length) H
theorem call_lenDn {X : Cx} : CallR X (.builtin "len") cLenD := call_lenD
def cLenQ (K : PySem.W.Frag) : List V → Hp → VK → Prop := fun xs H Q => ∃ p ys, xs = [.ref p] ∧ (SqL K H p ys ∨ SqT K H p ys) ∧ Q (.int ys.length) H
theorem call_lenQn {X : Cx} : CallR X (.builtin "len") (cLenQ X.K) := call_len_seq
def cLenS : List V → Hp → VK → Prop := fun xs H Q => ∃ z, xs = [.str z] ∧ z.length ≤ sizeLine ∧ Q (.int z.length) H
theorem call_lenSn {X : Cx} : CallR X (.builtin "len") cLenS := call_len_str
def cMin2 : List V → Hp → VK → Prop := fun xs H Q => ∃ i j, xs = [.int i, .int j] ∧ Q (.int (if j < i then j else i)) H
theorem call_min2n {X : Cx} (hc : X.calm = true) : CallR X (.builtin "min") cMin2 := call_min2 hc
def cMax2 : List V → Hp → VK → Prop := fun xs H Q => ∃ i j, xs = [.int i, .int j] ∧ Q (.int (if j > i then j else i)) H
theorem call_max2n {X : Cx} (hc : X.calm = true) : CallR X (.builtin "max") cMax2 := call_max2 hc
def cOrd : List V → Hp → VK → Prop := fun xs H Q => ∃ x, xs = [.str x] ∧ x.length = 1 ∧ Q (.int (x.cps.getD 0 0 : Nat)) H
theorem call_ordn {X : Cx} : CallR X (.builtin "ord") cOrd := call_ord
def cList (K : PySem.W.Frag) : List V → Hp → VK → Prop := fun xs H Q => ∃ p ys, xs = [.ref p] ∧ (SqL K H p ys ∨ SqT K H p ys) ∧ ∀ l, H l = none → Q (.ref l) (upd H l (.lst ys))
theorem call_listn {X : Cx} : CallR X (.type "list") (cList X.K) := call_list_of
def cTuple (K : PySem.W.Frag) : List V → Hp → VK → Prop := fun xs H Q => ∃ p ys, xs = [.ref p] ∧ ((SqL K H p ys ∧ ∀ l, H l = none → Q (.ref l) (upd H l (.tup ys))) ∨ (SqT K H p ys ∧ Q (.ref p) H))
theorem call_tuplen {X : Cx} : CallR X (.type "tuple") (cTuple X.K) := call_tuple_of
def cInt : List V → Hp → VK → Prop := fun xs H Q => (∃ i, xs = [.int i] ∧ Q (.int i) H) ∨ ∃ k, xs = [.bl k] ∧ Q (.int (if k then 1 else 0)) H
theorem call_intn {X : Cx} : CallR X (.type "int") cInt := call_int1
def cStrI : List V → Hp → VK → Prop := fun xs H Q => ∃ i, xs = [.int i] ∧ i.natAbs.log2 < 1920 ∧ Q (.str (toString i)) H
theorem call_strn {X : Cx} : CallR X (.type "str") cStrI := call_str_int

section
variable {K : PySem.W.Frag} {σ : L2.St} {H : Hp} {Q : VK} {QB : Bool → Hp → Prop} {QA : List V → Hp → Prop} {D : Ends} {nx bk ct : L2.St → Hp → Prop} {rt : VK} {t u : TS} {te ta tb : TE} {tt tu : TT} {tA : TA} {g : TG} {v x y : V} {r : R2} {f : Str} {W : WX} {sp : Sp}

/-! ### the middles by name -/
def rBl (QB : Bool → Hp → Prop) : V → Hp → Prop := fun x H => ∃ k, x = .bl k ∧ QB k H
def rNewT (xs : List V) (H : Hp) (Q : VK) : Prop := xs.length ≤ sizeLine ∧ ∀ p, H p = none → Q (.ref p) (upd H p (.tup xs))
def rNewL (xs : List V) (H : Hp) (Q : VK) : Prop := xs.length ≤ sizeLine ∧ ∀ p, H p = none → Q (.ref p) (upd H p (.lst xs))
def rPart (q : Option Int → Hp → Prop) : V → Hp → Prop := fun x H => ∃ i, x = .int i ∧ q (some i) H
def rGetD (x y : V) (H : Hp) (Q : VK) : Prop := ∃ a v, x = .ref a ∧ DGet H a y (some v) ∧ Q v H
def rDin (y x : V) (H : Hp) (Q : VK) : Prop := ∃ a o, x = .ref a ∧ DGet H a y o ∧ Q (.bl o.isSome) H
def rDni (y x : V) (H : Hp) (Q : VK) : Prop := ∃ a o, x = .ref a ∧ DGet H a y o ∧ Q (.bl (!o.isSome)) H
def rPutD (x y v : V) (H : Hp) (q : Hp → Prop) : Prop := ∃ a H4, x = .ref a ∧ DPut H a y v H4 ∧ q H4
def rNewI (C : Addr) (sp : Sp) (W : WX) (σ : L2.St) (vs : List V) (H : Hp) (Q : VK) : Prop := ∀ x dx, H x = none → H dx = none → dx ≠ x → sp (.ref x :: vs) (upd (upd H dx (.own x)) x (.ins C dx [])) (fun v H2 => v = .non ∧ Q (.ref x) H2) fun c d H2 => W c d σ H2
def rRng1 (vs : List V) (H : Hp) (R : It → Hp → Prop) : Prop := ∃ j : Int, vs = [.int j] ∧ -(2 ^ 62) ≤ j ∧ j < 2 ^ 62 ∧ R (Itr 0 j.toNat) H
def rRng2 (vs : List V) (H : Hp) (R : It → Hp → Prop) : Prop := ∃ i j : Int, vs = [.int i, .int j] ∧ (-(2 ^ 62) ≤ i ∧ i < 2 ^ 62 ∧ -(2 ^ 62) ≤ j ∧ j < 2 ^ 62) ∧ R (Itr i (j - i).toNat) H
def rWlk (K : PySem.W.Frag) (x : V) (H : Hp) (R : It → Hp → Prop) : Prop := ∃ a, x = .ref a ∧ (∃ xs, SqL K H a xs) ∧ R (Itl K a) H
/-! ### statements -/
/-! ### tests -/
theorem x_bl {k : Bool} (q : QB k H) : rBl QB (.bl k) H := ⟨k, rfl, q⟩
theorem x_blI {k : Bool} {A : Bool → Prop} (q : A k) : ∃ k', V.bl k = .bl k' ∧ A k' := ⟨k, rfl, q⟩
theorem x_if {b : Bool} {A B : Prop} (h1 : b = true → A) (h2 : b = false → B) : if b = true then A else B := by
  cases b with
  | true => exact (if_pos rfl).mpr (h1 rfl)
  | false => exact (if_neg Bool.false_ne_true).mpr (h2 rfl)
theorem x_ifT {b : Bool} {A B : Prop} (e : b = true) (h : A) : if b = true then A else B := by
  rw [if_pos e]
  exact h
theorem x_ifF {b : Bool} {A B : Prop} (e : b = false) (h : B) : if b = true then A else B := by
  rw [e, if_neg Bool.false_ne_true]
  exact h
/-! ### expressions -/
theorem w_var {i : Nat} (e : σ[i]? = some (some v)) (q : Q v H) : tVar i σ H Q := ⟨v, e, q⟩
/-! made objects -/
theorem x_tup {xs : List V} (q : ∀ p H', H p = none → H' p = some (.tup xs) → Same H H' → Q (.ref p) H') (hl : xs.length ≤ 1000 := by exact Nat.le_of_ble_eq_true rfl) : rNewT xs H Q :=
  ⟨Nat.le_of_lt (small1000 hl), fun p hp => q p _ hp upd_same (Same.new hp)⟩
theorem x_lst {xs : List V} (q : ∀ p H', H p = none → H' p = some (.lst xs) → Same H H' → Q (.ref p) H') (hl : xs.length ≤ 1000 := by exact Nat.le_of_ble_eq_true rfl) : rNewL xs H Q :=
  ⟨Nat.le_of_lt (small1000 hl), fun p hp => q p _ hp upd_same (Same.new hp)⟩
theorem x_new {o : HO} (q : ∀ p H', H p = none → H' p = some o → Same H H' → Q (.ref p) H') : ∀ p, H p = none → Q (.ref p) (upd H p o) := fun p hp => q p _ hp upd_same (Same.new hp)
theorem w_dnew (q : ∀ p H', H p = none → H' p = some (.dK []) → Same H H' → Q (.ref p) H') : tDNewK σ H Q := fun p hp => q p _ hp upd_same (Same.new hp)
/-! ints -/
theorem x_addI {i j : Int} (q : Q (.int (i + j)) H) : rAddI (.int i) (.int j) H Q := ⟨i, j, rfl, rfl, q⟩
theorem x_subI {i j : Int} (q : Q (.int (i - j)) H) : rSubI (.int i) (.int j) H Q := ⟨i, j, rfl, rfl, q⟩
theorem x_mulI {i j : Int} (h : CMul i j) (q : Q (.int (i * j)) H) : rMulI (.int i) (.int j) H Q := ⟨i, j, rfl, rfl, h, q⟩
theorem x_mulX {i j : Int} (h : CMulW i j) (q : Q (.int (i * j)) H) : rMulX (.int i) (.int j) H Q := ⟨i, j, rfl, rfl, h, q⟩
theorem x_divI {i j : Int} (h : CDiv i j) (q : Q (.int (i / j)) H) : rDivI (.int i) (.int j) H Q := ⟨i, j, rfl, rfl, h, q⟩
theorem x_modI {i j : Int} (h : 0 < j) (q : Q (.int (i % j)) H) : rModI (.int i) (.int j) H Q := ⟨i, j, rfl, rfl, h, q⟩
theorem x_shl {i j : Int} (h : CPow i j) (q : Q (.int (i * 2 ^ j.toNat)) H) : rShl (.int i) (.int j) H Q := ⟨i, j, rfl, rfl, h, q⟩
theorem x_ltI {i j : Int} (q : Q (.bl (decide (i < j))) H) : rLtI (.int i) (.int j) H Q := ⟨i, j, rfl, rfl, q⟩
theorem x_leI {i j : Int} (q : Q (.bl (decide (i ≤ j))) H) : rLeI (.int i) (.int j) H Q := ⟨i, j, rfl, rfl, q⟩
theorem x_gtI {i j : Int} (q : Q (.bl (decide (j < i))) H) : rGtI (.int i) (.int j) H Q := ⟨i, j, rfl, rfl, q⟩
theorem x_geI {i j : Int} (q : Q (.bl (decide (j ≤ i))) H) : rGeI (.int i) (.int j) H Q := ⟨i, j, rfl, rfl, q⟩
theorem x_neg {i : Int} (q : Q (.int (-i)) H) : rNegI (.int i) H Q := ⟨i, rfl, q⟩
/-! == -/
theorem x_eqI {i j : Int} (q : Q (.bl (decide (i = j))) H) : rEq (.int i) (.int j) H Q := ⟨rfl, by rw [dec_int, Bool.beq_eq_decide_eq]; exact q⟩
theorem x_neI {i j : Int} (q : Q (.bl (!decide (i = j))) H) : rNe (.int i) (.int j) H Q := ⟨rfl, by rw [dec_int, Bool.beq_eq_decide_eq]; exact q⟩
theorem x_eqS {i j : Str} (q : Q (.bl (decide (i = j))) H) : rEq (.str i) (.str j) H Q := ⟨rfl, by rw [dec_str, Bool.beq_eq_decide_eq]; exact q⟩
theorem x_neS {i j : Str} (q : Q (.bl (!decide (i = j))) H) : rNe (.str i) (.str j) H Q := ⟨rfl, by rw [dec_str, Bool.beq_eq_decide_eq]; exact q⟩
theorem x_isN (q : Q (.bl (decide (x = .non))) H) : rIsN x .non H Q := ⟨rfl, q⟩
theorem x_notN (q : Q (.bl (!decide (x = .non))) H) : rNotN x .non H Q := ⟨rfl, q⟩
/-! texts -/
theorem x_addS {i j : Str} (h : i.length + j.length ≤ sizeLine) (q : Q (.str (i ++ j)) H) : rAddS (.str i) (.str j) H Q := ⟨i, j, rfl, rfl, h, q⟩
theorem x_inS {c : Nat} {z : Str} (q : Q (.bl (decide (c ∈ z.cps.toList))) H) : rInS (.str ⟨#[c]⟩) (.str z) H Q := ⟨c, z, rfl, rfl, q⟩
theorem x_lenS {z : Str} (h : z.length ≤ sizeLine) (q : Q (.int z.length) H) : cLenS [.str z] H Q := ⟨z, rfl, h, q⟩
/-! lists, tuples, dicts -/
theorem x_ixL {p : Addr} {xs : List V} {i : Int} (h : SqL K H p xs) (e : atI xs i = some v) (q : Q v H) : rIxL K (.ref p) (.int i) H Q := ⟨p, xs, i, v, rfl, rfl, h, e, q⟩
theorem x_ixT {p : Addr} {xs : List V} {i : Int} (h : SqT K H p xs) (e : atI xs i = some v) (q : Q v H) : rIxT K (.ref p) (.int i) H Q := ⟨p, xs, i, v, rfl, rfl, h, e, q⟩
theorem x_lenL {p : Addr} {xs : List V} (h : H p = some (.lst xs)) (q : Q (.int xs.length) H) : cLenQ K [.ref p] H Q := ⟨p, xs, rfl, .inl (SqL.of h), q⟩
theorem x_lenT {p : Addr} {xs : List V} (h : H p = some (.tup xs)) (q : Q (.int xs.length) H) : cLenQ K [.ref p] H Q := ⟨p, xs, rfl, .inr (SqT.of h), q⟩
theorem x_lenD {p : Addr} {kvs : List (Key × V)} (h : H p = some (.dK kvs)) (q : Q (.int kvs.length) H) : cLenD [.ref p] H Q := ⟨p, kvs, rfl, h, q⟩
theorem x_cat {l b : Addr} {xs zs : List V} (h1 : H l = some (.lst xs)) (h2 : H b = some (.lst zs)) (hl : xs.length + zs.length ≤ sizeLine) (q : ∀ p H', H p = none → H' p = some (.lst (xs ++ zs)) → Same H H' → Q (.ref p) H') : rCat (.ref l) (.ref b) H Q :=
  ⟨l, b, xs, zs, rfl, rfl, h1, h2, hl, x_new q⟩
theorem x_rep {l : Addr} {xs : List V} {k : Int} (h : H l = some (.lst xs)) (h1 : -(2 ^ 63) ≤ k) (h2 : k < 2 ^ 63) (hl : xs.length * k.toNat ≤ sizeLine) (q : ∀ p H', H p = none → H' p = some (.lst (List.replicate k.toNat xs).flatten) → Same H H' → Q (.ref p) H') : rRep (.ref l) (.int k) H Q :=
  ⟨l, k, xs, rfl, rfl, h, h1, h2, hl, x_new q⟩
theorem x_repT {l : Addr} {xs : List V} {k : Int} (h : H l = some (.tup xs)) (h0 : xs ≠ []) (h1 : 2 ≤ k) (h2 : k ≤ 1000) (hl : xs.length ≤ 1000) (q : ∀ p H', H p = none → H' p = some (.tup (List.replicate k.toNat xs).flatten) → Same H H' → Q (.ref p) H') : rRepT K (.ref l) (.int k) H Q :=
  ⟨l, k, xs, rfl, rfl, SqT.of h, h0, h1, h2, hl, x_new q⟩
theorem x_setL {p : Addr} {xs : List V} {k : Int} {j : Nat} {q : Hp → Prop} (h : H p = some (.lst xs)) (e : ixN xs.length k = some j) (h2 : q (upd H p (.lst (xs.set j v)))) : rSetL (.ref p) (.int k) v H q := ⟨p, xs, k, j, rfl, rfl, h, e, h2⟩
theorem ty_lst {p : Addr} {xs : List V} {A : Prop} (h : H p = some (.lst xs)) (q : A) : tyV K "list" (.ref p) H ∧ A := ⟨.inl ⟨rfl, _, SqL.of h⟩, q⟩
theorem ty_dK {p : Addr} {kvs : List (Key × V)} {A : Prop} (h : H p = some (.dK kvs)) (q : A) : tyV K "dict" (.ref p) H ∧ A := ⟨.inr (.inr (.inl ⟨rfl, .inl ⟨_, h⟩⟩)), q⟩
theorem x_app {l : Addr} {xs : List V} (h : H l = some (.lst xs)) (hl : xs.length < sizeLine) (q : Q .non (upd H l (.lst (xs ++ [v])))) : rAppend (.ref l) [v] H Q := ⟨l, xs, v, rfl, rfl, h, hl, q⟩
theorem x_part {i : Int} {q : Option Int → Hp → Prop} (h : q (some i) H) : rPart q (.int i) H := ⟨i, rfl, h⟩
theorem x_slL {p : Addr} {xs : List V} {lo hi : Option Int} (h : SqL K H p xs) (q : ∀ p' H', H p' = none → H' p' = some (.lst (cutV xs lo hi)) → Same H H' → Q (.ref p') H') : rSlL K (.ref p) lo hi H Q := ⟨p, xs, rfl, h, x_new q⟩
theorem x_slS {z : Str} {lo hi : Option Int} (h : z.length ≤ sizeLine) (q : Q (.str (cutS z lo hi)) H) : rSlS (.str z) lo hi H Q := ⟨z, rfl, h, q⟩
theorem x_listL {p : Addr} {xs : List V} (h : SqL K H p xs) (q : ∀ l H', H l = none → H' l = some (.lst xs) → Same H H' → Q (.ref l) H') : cList K [.ref p] H Q := ⟨p, xs, rfl, .inl h, x_new q⟩
theorem x_listT {p : Addr} {xs : List V} (h : SqT K H p xs) (q : ∀ l H', H l = none → H' l = some (.lst xs) → Same H H' → Q (.ref l) H') : cList K [.ref p] H Q := ⟨p, xs, rfl, .inr h, x_new q⟩
theorem x_tupleL {p : Addr} {xs : List V} (h : SqL K H p xs) (q : ∀ l H', H l = none → H' l = some (.tup xs) → Same H H' → Q (.ref l) H') : cTuple K [.ref p] H Q := ⟨p, xs, rfl, .inl ⟨h, x_new q⟩⟩
theorem dget_rd {a : Addr} {kvs : List (Key × V)} {k : Key} {y : V} {o : Option V} (e : Rd H a (.dK kvs)) (ey : y = kV k) (eo : o = valV kvs k) : DGet H a y o := .inl ⟨kvs, k, e, ey, eo⟩
theorem x_dget {a : Addr} {kvs : List (Key × V)} {k : Key} (e : Rd H a (.dK kvs)) (ey : y = kV k) (eo : valV kvs k = some v) (q : Q v H) : rGetD (.ref a) y H Q := ⟨a, v, rfl, dget_rd e ey eo.symm, q⟩
theorem x_din {a : Addr} {kvs : List (Key × V)} {k : Key} (e : Rd H a (.dK kvs)) (ey : y = kV k) {b : Bool} (eb : (valV kvs k).isSome = b) (q : Q (.bl b) H) : rDin y (.ref a) H Q := ⟨a, _, rfl, dget_rd e ey rfl, by rw [eb]; exact q⟩
theorem x_dni {a : Addr} {kvs : List (Key × V)} {k : Key} (e : Rd H a (.dK kvs)) (ey : y = kV k) {b : Bool} (eb : (valV kvs k).isSome = b) (q : Q (.bl (!b)) H) : rDni y (.ref a) H Q := ⟨a, _, rfl, dget_rd e ey rfl, by rw [eb]; exact q⟩
theorem x_dput {a : Addr} {kvs : List (Key × V)} {k : Key} {q : Hp → Prop} (e : H a = some (.dK kvs)) (hl : kvs.length ≤ 1000) (ey : y = kV k) (h : q (upd H a (.dK (putK kvs k v)))) : rPutD (.ref a) y v H q :=
  ⟨a, _, rfl, .inl ⟨kvs, k, e, ey, small1000 hl, rfl⟩, h⟩
/-! equal data -/
theorem x_eqD {d e : PyData} {a b : V} (h1 : Dp K H a d) (h2 : Dp K H b e) (s1 : SeqAt.shaped d = true) (s2 : SeqAt.shaped e = true) (q : Q (.bl (PyData.eqv d e)) H) : rEqD K a b H Q := ⟨d, e, h1, h2, s1, s2, q⟩
theorem x_neD {d e : PyData} {a b : V} (h1 : Dp K H a d) (h2 : Dp K H b e) (s1 : SeqAt.shaped d = true) (s2 : SeqAt.shaped e = true) (q : Q (.bl (!PyData.eqv d e)) H) : rNeD K a b H Q := ⟨d, e, h1, h2, s1, s2, q⟩
/-! making an instance -/
theorem x_make {C : Addr} {vs : List V} (q : ∀ x dx H', H x = none → H' x = some (.ins C dx []) → Same H H' → sp (.ref x :: vs) H' (fun v H2 => v = .non ∧ Q (.ref x) H2) fun c d H2 => W c d σ H2) : rNewI C sp W σ vs H Q :=
  fun x dx nx ndx ne => q x dx _ nx upd_same fun a o e => by
    rw [upd_ne (ne_of_none e nx), upd_ne (ne_of_none e ndx)]
    exact e
/-! ### loops -/
/-- behind the reading of what is walked: a list -/
theorem x_forL {a : Addr} {xs : List V} (Pv : Nat → L2.St → Hp → Prop) (h0 : Pv 0 σ H) (hl : ∀ i σ H, i ≤ xs.length → Pv i σ H → SqL K H a xs)
    (hs : ∀ i x σ H, xs[i]? = some x → Pv i σ H → g x σ H fun σ2 H2 => t ⟨Pv (i + 1), rt, nx, Pv (i + 1)⟩ σ2 H2) (hd : ∀ σ H, Pv xs.length σ H → nx σ H) :
    ∃ W : Nat → Nat → L2.St → Hp → Prop, (∃ m, W 0 m σ H) ∧ ∀ i m σ H, W i m σ H →
      ((Itl K a).stop i H ∧ nx σ H) ∨ ((Itl K a).go i H ∧ ∃ N : L2.St → Hp → Prop, (∀ σ' H', N σ' H' → ∃ m', m' < m ∧ W (i + 1) m' σ' H') ∧ ∀ x H', (Itl K a).yld i H x H' → g x σ H' fun σ2 H2 => t ⟨N, rt, nx, N⟩ σ2 H2) :=
  for_list (D := ⟨nx, rt, fun _ _ => False, fun _ _ => False⟩) Pv h0 hl hs hd
theorem x_forR {lo : Int} {n : Nat} (Pv : Nat → L2.St → Hp → Prop) (h0 : Pv 0 σ H)
    (hs : ∀ i σ H, i < n → Pv i σ H → g (.int (lo + i)) σ H fun σ2 H2 => t ⟨Pv (i + 1), rt, nx, Pv (i + 1)⟩ σ2 H2) (hd : ∀ σ H, Pv n σ H → nx σ H) :
    ∃ W : Nat → Nat → L2.St → Hp → Prop, (∃ m, W 0 m σ H) ∧ ∀ i m σ H, W i m σ H →
      ((Itr lo n).stop i H ∧ nx σ H) ∨ ((Itr lo n).go i H ∧ ∃ N : L2.St → Hp → Prop, (∀ σ' H', N σ' H' → ∃ m', m' < m ∧ W (i + 1) m' σ' H') ∧ ∀ x H', (Itr lo n).yld i H x H' → g x σ H' fun σ2 H2 => t ⟨N, rt, nx, N⟩ σ2 H2) :=
  for_range (D := ⟨nx, rt, fun _ _ => False, fun _ _ => False⟩) Pv h0 hs hd
theorem x_rng1 {R : It → Hp → Prop} {j : Int} (h1 : -(2 ^ 62) ≤ j) (h2 : j < 2 ^ 62) (h : R (Itr 0 j.toNat) H) : rRng1 [.int j] H R := ⟨j, rfl, h1, h2, h⟩
theorem x_rng2 {R : It → Hp → Prop} {i j : Int} (h1 : -(2 ^ 62) ≤ i ∧ i < 2 ^ 62 ∧ -(2 ^ 62) ≤ j ∧ j < 2 ^ 62) (h : R (Itr i (j - i).toNat) H) : rRng2 [.int i, .int j] H R := ⟨i, j, rfl, h1, h⟩
theorem x_ilist {R : It → Hp → Prop} {a : Addr} {xs : List V} (hx : SqL K H a xs) (h : R (Itl K a) H) : rWlk K (.ref a) H R := ⟨a, rfl, ⟨xs, hx⟩, h⟩
end
theorem sameAt {H H' : Hp} {a : Addr} {o : HO} (s : Same H H') (h : H a = some o) : H' a = some o := s a o h
theorem sameTr {H H1 H2 : Hp} (b : Same H1 H2) (a : Same H H1) : Same H H2 := a.trans b
end SP

set_option Elab.async false
set_option linter.all false
set_option maxRecDepth 100000
set_option maxHeartbeats 4000000
/-! The readings once more, unfolded by the reducible steps alone. -/
namespace SP
open PySem PySem.Spec PyProof.Rows L2
abbrev W0 : WX := fun _ _ _ _ => False
abbrev fin (Q : VK) : Ends := { nx := fun _ H' => Q .non H', rt := Q }
/-- an error of class x is wished -/
abbrev Exn (K : PySem.W.Frag) (E : XK) (x : Str) (H : Hp) : Prop := E (.ref (He.ga K x)) none H
abbrev WE1 (E : XK) : WX := fun c d _ H => E c d H
section
variable (K : PySem.W.Frag)
abbrev uSeq (t u : TS) : TS := fun D σ H => t { nx := u D, rt := D.rt, bk := D.bk, ct := D.ct } σ H
abbrev uNext : TS := fun D σ H => D.nx σ H
abbrev uBreak : TS := fun D σ H => D.bk σ H
abbrev uCont : TS := fun D σ H => D.ct σ H
abbrev uAsg (te : TE) (g : TG) : TS := fun D σ H => te σ H fun x H1 => g x σ H1 D.nx
abbrev vName (i : Nat) : TG := fun v σ H Q => Q (σ.set i (some v)) H
abbrev uRet (te : TE) : TS := fun D σ H => te σ H D.rt
abbrev uRetN : TS := fun D _ H => D.rt .non H
abbrev uDrop (te : TE) : TS := fun D σ H => te σ H fun _ H1 => D.nx σ H1
abbrev uIfS (c : TT) (t u : TS) : TS := fun D σ H => c σ H fun b H1 => if b = true then t D σ H1 else u D σ H1
abbrev uRaiseW (W : WX) (c : Addr) : TS := fun _ σ H => W (.ref c) none σ H
abbrev uFldS (ta tv : TE) (f : Str) : TS := fun D σ H => tv σ H fun y H1 => ta σ H1 fun x H2 => rSet1 K f y x H2 (D.nx σ)
abbrev uTest (t : TE) : TT := fun σ H Q => t σ H fun x H' => rBl Q x H'
abbrev uAnd (t u : TT) : TT := fun σ H Q => t σ H fun c H1 => if c = true then u σ H1 Q else Q false H1
abbrev uOr (t u : TT) : TT := fun σ H Q => t σ H fun c H1 => if c = true then Q true H1 else u σ H1 Q
abbrev uNot (t : TT) : TT := fun σ H Q => t σ H fun c H1 => Q (!c) H1
def rBV (A : Bool → Prop) (x : V) : Prop := ∃ c, x = .bl c ∧ A c
theorem x_bv {A : Bool → Prop} {k : Bool} (q : A k) : rBV A (.bl k) := ⟨k, rfl, q⟩
abbrev uAndV (ta tb : TE) : TE := fun σ H Q => ta σ H fun x H1 => rBV (fun c => if c = true then tb σ H1 Q else Q (.bl false) H1) x
abbrev uOrV (ta tb : TE) : TE := fun σ H Q => ta σ H fun x H1 => rBV (fun c => if c = true then Q (.bl true) H1 else tb σ H1 Q) x
abbrev uNotV (ta : TE) : TE := fun σ H Q => ta σ H fun x H1 => rBV (fun c => Q (.bl (!c)) H1) x
abbrev uIf (t : TT) (ta tb : TE) : TE := fun σ H Q => t σ H fun c H1 => if c = true then ta σ H1 Q else tb σ H1 Q
abbrev uC (v : V) : TE := fun _ H Q => Q v H
abbrev uOp (r : R2) (ta tb : TE) : TE := fun σ H Q => ta σ H fun x H1 => tb σ H1 fun y H2 => r x y H2 Q
abbrev uUn (r : V → Hp → VK → Prop) (ta : TE) : TE := fun σ H Q => ta σ H fun x H1 => r x H1 Q
abbrev uChain (r r' : R2) (ta tb tc : TE) : TE := fun σ H Q => ta σ H fun x H1 => tb σ H1 fun y H2 => r x y H2 fun z H3 => rBV (fun k => if k = true then tc σ H3 fun w' H4 => r' y w' H4 Q else Q (.bl false) H3) z
abbrev uFld (ta : TE) (f : Str) : TE := fun σ H Q => ta σ H fun x H1 => rFld K f x H1 Q
abbrev uNil : TA := fun _ H Q => Q [] H
abbrev uCons (ta : TE) (tr : TA) : TA := fun σ H Q => ta σ H fun x H1 => tr σ H1 fun xs H2 => Q (x :: xs) H2
abbrev uCB (r : List V → Hp → VK → Prop) (t : TA) : TE := fun σ H Q => t σ H fun vs H1 => r vs H1 Q
abbrev uCallW (sp : Sp) (W : WX) (t : TA) : TE := fun σ H Q => t σ H fun vs H1 => sp vs H1 Q fun c d H2 => W c d σ H2
abbrev uMethW (C : Addr) (m : Str) (sp : Sp) (W : WX) (ta : TE) (t : TA) : TE := fun σ H Q => ta σ H fun x H1 => rMeth C m sp W t σ x H1 Q
abbrev uMakeW (C : Addr) (sp : Sp) (W : WX) (t : TA) : TE := fun σ H Q => t σ H fun vs H1 => rNewI C sp W σ vs H1 Q
abbrev uTup (t : TA) : TE := fun σ H Q => t σ H fun xs H1 => rNewT xs H1 Q
abbrev uLst (t : TA) : TE := fun σ H Q => t σ H fun xs H1 => rNewL xs H1 Q
abbrev uSl (r : V → Option Int → Option Int → Hp → VK → Prop) (te : TE) (tl th : TO) : TE := fun σ H Q => te σ H fun x H1 => tl σ H1 fun l H2 => th σ H2 fun u H3 => r x l u H3 Q
abbrev uNoPart : TO := fun _ H Q => Q none H
abbrev uPart (t : TE) : TO := fun σ H Q => t σ H fun x H1 => rPart Q x H1
abbrev uDGet (td ty : TE) : TE := fun σ H Q => td σ H fun x H1 => ty σ H1 fun y H2 => rGetD x y H2 Q
abbrev uDIn (ty td : TE) : TE := fun σ H Q => ty σ H fun y H1 => td σ H1 fun x H2 => rDin y x H2 Q
abbrev uDNotIn (ty td : TE) : TE := fun σ H Q => ty σ H fun y H1 => td σ H1 fun x H2 => rDni y x H2 Q
abbrev uDPut (td ty tv : TE) : TS := fun D σ H => tv σ H fun v H1 => td σ H1 fun x H2 => ty σ H2 fun y H3 => rPutD x y v H3 (D.nx σ)
def rGet1 (ty : TE) (σ : L2.St) (x : V) (H1 : Hp) (Q : VK) : Prop := ∃ a, x = .ref a ∧ IsD H1 a ∧ ty σ H1 fun y H2 => ∃ o, DGet H2 a y o ∧ Q (o.getD .non) H2
abbrev uDGet1 (td ty : TE) : TE := fun σ H Q => td σ H fun x H1 => rGet1 ty σ x H1 Q
def rGet2 (ty tx : TE) (σ : L2.St) (x : V) (H1 : Hp) (Q : VK) : Prop := ∃ a, x = .ref a ∧ IsD H1 a ∧ ty σ H1 fun y H2 => tx σ H2 fun z H3 => ∃ o, DGet H3 a y o ∧ Q (o.getD z) H3
abbrev uDGet2 (td ty tx : TE) : TE := fun σ H Q => td σ H fun x H1 => rGet2 ty tx σ x H1 Q
def rPop1 (ty : TE) (σ : L2.St) (x : V) (H1 : Hp) (Q : VK) : Prop := ∃ a, x = .ref a ∧ IsD H1 a ∧ ty σ H1 fun y H2 => ∃ kvs k v, H2 a = some (.dK kvs) ∧ y = kV k ∧ valV kvs k = some v ∧ Q v (upd H2 a (.dK (dropK kvs k)))
abbrev uDPop1 (td ty : TE) : TE := fun σ H Q => td σ H fun x H1 => rPop1 ty σ x H1 Q
def rBMt (T : String) (r : V → List V → Hp → VK → Prop) (t : TA) (σ : L2.St) (x : V) (H1 : Hp) (Q : VK) : Prop := tyV K T x H1 ∧ t σ H1 fun xs H2 => r x xs H2 Q
abbrev uBM (T : String) (r : V → List V → Hp → VK → Prop) (to : TE) (t : TA) : TE := fun σ H Q => to σ H fun x H1 => rBMt K T r t σ x H1 Q
def rBMt0 (T : String) (r : V → List V → Hp → VK → Prop) (x : V) (H1 : Hp) (Q : VK) : Prop := tyV K T x H1 ∧ r x [] H1 Q
abbrev uBM0 (T : String) (r : V → List V → Hp → VK → Prop) (to : TE) : TE := fun σ H Q => to σ H fun x H1 => rBMt0 K T r x H1 Q
def rM1t (r : V → List V → Hp → VK → Prop) (te : TE) (σ : L2.St) (x : V) (H1 : Hp) (Q : VK) : Prop := (∃ a, x = .str a) ∧ te σ H1 fun y H2 => r x [y] H2 Q
abbrev uM1 (r : V → List V → Hp → VK → Prop) (to te : TE) : TE := fun σ H Q => to σ H fun x H1 => rM1t r te σ x H1 Q
abbrev vSub (to ti : TE) (t : TSet) : TG := fun v σ H Q => to σ H fun o H1 => ti σ H1 fun i H2 => t o i v H2 fun H3 => Q σ H3
abbrev vNil : TGs := gNil
abbrev vCons (t : TG) (u : TGs) : TGs := gCons t u
abbrev vTup (n : Nat) (t : TGs) : TG := gTup K n t
abbrev jRng1 (ta : TA) : TI := fun σ H R => ta σ H fun vs H1 => rRng1 vs H1 R
abbrev jRng2 (ta : TA) : TI := fun σ H R => ta σ H fun vs H1 => rRng2 vs H1 R
abbrev jList (tl : TE) : TI := fun σ H R => tl σ H fun x H1 => rWlk K x H1 R
abbrev uFor (wi : TI) (g : TG) (tb : TS) : TS := fun D σ H => wi σ H fun J H1 => ∃ W : Nat → Nat → L2.St → Hp → Prop, (∃ m, W 0 m σ H1) ∧ ∀ i m σ H, W i m σ H →
  (J.stop i H ∧ D.nx σ H) ∨ (J.go i H ∧ ∃ N : L2.St → Hp → Prop, (∀ σ' H', N σ' H' → ∃ m', m' < m ∧ W (i + 1) m' σ' H') ∧ ∀ x H', J.yld i H x H' → g x σ H' fun σ2 H2 => tb ⟨N, D.rt, D.nx, N⟩ σ2 H2)
end
section
variable {K : PySem.W.Frag} {σ : L2.St} {H : Hp} {Q : VK} {f : Str} {ty tx : TE} {tA : TA} {x v : V}
end
section
variable {K : PySem.W.Frag} {σ : L2.St} {H : Hp} {Q : VK} {tA : TA}
theorem x_bmL {p : Addr} {xs : List V} {r : V → List V → Hp → VK → Prop} (h : H p = some (.lst xs)) (q : tA σ H fun ys H2 => r (.ref p) ys H2 Q) : rBMt K "list" r tA σ (.ref p) H Q := ⟨.inl ⟨rfl, _, SqL.of h⟩, q⟩
theorem x_bmL0 {p : Addr} {xs : List V} {r : V → List V → Hp → VK → Prop} (h : H p = some (.lst xs)) (q : r (.ref p) [] H Q) : rBMt0 K "list" r (.ref p) H Q := ⟨.inl ⟨rfl, _, SqL.of h⟩, q⟩
end
theorem freeUpd {H : Hp} {p g : Addr} {o : HO} (h : upd H p o g = none) : H g = none := by
  by_cases e : g = p
  · rw [e, upd_same] at h
    cases h
  · rw [upd_ne e] at h
    exact h
theorem noneSome {H : Hp} {a : Addr} {o : HO} (h : H a = some o) : ¬ H a = none := fun e => by rw [h] at e; cases e
/-- what is free there is free here -/
def Dm (H H' : Hp) : Prop := ∀ a, H' a = none → H a = none
theorem dmRefl {H : Hp} : Dm H H := fun _ h => h
theorem dmSame {H H1 H2 : Hp} (s : Same H1 H2) (d : Dm H H1) : Dm H H2 := fun a h => d a (s.free h)
theorem dmUpd {H H1 : Hp} {p : Addr} {o : HO} (d : Dm H H1) : Dm H (upd H1 p o) := fun a h => d a (freeUpd h)
theorem dmKeep {ms : List Addr} {H H1 H2 : Hp} (e : Keep ms H1 H2) (m : ∀ a ∈ ms, (H2 a).isSome = true) (d : Dm H H1) : Dm H H2 := fun a h => d a (by
  cases q : H1 a with
  | none => rfl
  | some o =>
    by_cases z : a ∈ ms
    · have := m a z
      rw [h] at this
      cases this
    · have := e.k a o z q
      rw [h] at this
      cases this)
theorem dmAt {H H' : Hp} {a : Addr} (d : Dm H H') (h : H' a = none) : H a = none := d a h
theorem freeStep {H H1 : Hp} {g : Addr} (s : Same H H1) (h : H1 g = none) : H g = none := s.free h
theorem keepTr {ms : List Addr} {H H1 H2 : Hp} (b : Keep ms H1 H2) (a : Keep ms H H1) : Keep ms H H2 := a.trans b
theorem keepSm {ms : List Addr} {H H1 H2 : Hp} (b : Same H1 H2) (a : Keep ms H H1) : Keep ms H H2 := a.trans (Keep.of b)
end SP
namespace SP
open PySem PySem.Spec PyProof.Rows L2
abbrev uTryAs (K : PySem.W.Frag) (c : Value) (i : Nat) (tb : WX → TS) (ts : Addr → Value → Option Addr → TS) (Wout : WX) : TS := fun D σ H => tb (wAs K c i ts Wout D) D σ H
abbrev uTryOnly (K : PySem.W.Frag) (c : Value) (tb : WX → TS) (ts : Addr → Value → Option Addr → TS) (Wout : WX) : TS := fun D σ H => tb (wOnly K c ts Wout D) D σ H
end SP

set_option Elab.async false
set_option linter.all false
set_option maxRecDepth 100000
set_option maxHeartbeats 4000000
/-! Comprehensions by what their turns make; clauses. -/
namespace SP
open PySem PySem.Spec PyProof.Rows L2
def rLc (J : It) (g : TG) (tt : TT) (te : TE) (vs : List Nat) (σ : L2.St) (H1 : Hp) (Q : VK) : Prop := ∀ D, H1 D = none → ∃ W : Nat → Nat → Hp → Prop, (∃ m, W 0 m (upd H1 D (.lst []))) ∧ ∀ i m H, W i m H →
  (J.stop i H ∧ Q (.ref D) H) ∨ (J.go i H ∧ ∃ Nx : Hp → Prop, (∀ H', Nx H' → ∃ m', m' < m ∧ W (i + 1) m' H') ∧ ∀ x H', J.yld i H x H' → g x (wipe σ vs) H' fun σ2 H2 => wipe σ2 vs = wipe σ vs ∧ tt σ2 H2 fun b H3 =>
    if b = true then te σ2 H3 fun y H4 => ∃ acc, H4 D = some (.lst acc) ∧ acc.length < sizeLine ∧ Nx (upd H4 D (.lst (acc ++ [y]))) else Nx H3)
abbrev uLc (wi : TI) (g : TG) (tt : TT) (te : TE) (vs : List Nat) : TE := fun σ H Q => wi σ H fun J H1 => rLc J g tt te vs σ H1 Q
theorem asSs {X : Cx} {b : List Stmt} {t t' : TS} (h : PSs X b t) (e : t = t') : PSs X b t' := e ▸ h
theorem asE {X : Cx} {e : Expr} {t t' : TE} (h : PE X e t) (q : t = t') : PE X e t' := q ▸ h
theorem asTs {X : Cx} {b : List Expr} {t t' : TT} (h : PTs X b t) (e : t = t') : PTs X b t' := e ▸ h
theorem units65 {k : Nat} {A : Around} (r : Room k A) : A.units + 65 < cLine := by have := r.un; omega
theorem av_upd {D : Addr} {H : Hp} {o : HO} : av [D] (upd H D o) = av [D] H := by
  funext a
  unfold av
  by_cases h : a = D
  · subst h
    simp
  · simp only [List.mem_singleton, h, if_false]
    exact upd_ne h
theorem same_av {D : Addr} {H H' : Hp} (n : H D = none) (s : Same H H') : Same H (av [D] H') := fun a o e => av_at (s a o e) (by
  rw [List.mem_singleton]
  exact ne_of_none e n)
theorem keepNew {ms : List Addr} {H H1 H2 : Hp} (n : ∀ a ∈ ms, H a = none) (s : Same H H1) (k : Keep ms H1 H2) : Same H H2 := fun a o e => k.k a o (fun z => by rw [n a z] at e; cases e) (s a o e)
theorem updNew {H H1 : Hp} {p : Addr} {o : HO} (n : H p = none) (s : Same H H1) : Same H (upd H1 p o) := fun a u e => by
  rw [upd_ne (ne_of_none e n)]
  exact s a u e
section
variable {K : PySem.W.Frag} {σ : L2.St} {H : Hp} {Q : VK} {g : TG} {te : TE} {vs : List Nat}
/-- over a range, nothing left out: F i y, the i-th turn's item is y -/
theorem x_lcR {lo : Int} {n : Nat} (F : Nat → V → Hp → Prop) (mono : ∀ i v H H', Le H H' → F i v H → F i v H') (hn : n ≤ 100000)
    (hs : ∀ i D H' (P : VK), i < n → H D = none → (∃ acc, H' D = some (.lst acc)) → Same H H' → (∀ y H4, Same H' H4 → F i y (av [D] H4) → P y H4) → g (.int (lo + i)) (wipe σ vs) H' fun σ2 H2 => wipe σ2 vs = wipe σ vs ∧ te σ2 H2 P)
    (q : ∀ D H' acc, H D = none → H' D = some (.lst acc) → acc.length = n → Same H H' → (∀ i y, acc[i]? = some y → F i y (av [D] H')) → Q (.ref D) H') :
    rLc (Itr lo n) g tYes te vs σ H Q := by
  intro D nD
  refine lc_range (Qd := fun H' => Q (.ref D) H') (fun i H' => ∃ acc, H' D = some (.lst acc) ∧ acc.length = i ∧ Same H H' ∧ ∀ i y, acc[i]? = some y → F i y (av [D] H')) ⟨[], upd_same, rfl, Same.new nD, fun i y e => by simp at e⟩ (fun i H' hi h => ?_) (fun H' ⟨acc, hd, hl, s, hf⟩ => q D H' acc nD hd hl s hf)
  obtain ⟨acc, hd, hl, s, hf⟩ := h
  simp only [tYes, ↓reduceIte]
  refine hs i D H' _ hi nD ⟨acc, hd⟩ s fun y H4 s4 f4 => ⟨acc, s4 _ _ hd, ?_, acc ++ [y], upd_same, by rw [List.length_append, hl]; rfl, ?_, fun j z ez => ?_⟩
  · rw [sizeLine_eq]
    omega
  · exact updNew nD (s.trans s4)
  · rw [av_upd]
    by_cases c : j < acc.length
    · rw [List.getElem?_append_left c] at ez
      exact mono _ _ _ _ (Same.av s4) (hf j z ez)
    · rw [List.getElem?_append_right (Nat.le_of_not_lt c)] at ez
      have e0 : j - acc.length = 0 := by
        cases h : j - acc.length with
        | zero => rfl
        | succ m => rw [h] at ez; simp at ez
      rw [e0] at ez
      cases ez
      have : j = i := by omega
      subst this
      exact f4
end
/-- items that are told beforehand -/
theorem list_is {f : Nat → V} {acc : List V} {n : Nat} (hl : acc.length = n) (h : ∀ i y, acc[i]? = some y → y = f i) : acc = (List.range n).map f := by
  refine List.ext_getElem? fun i => ?_
  cases e : acc[i]? with
  | none =>
    have : n ≤ i := by rw [← hl]; exact List.getElem?_eq_none_iff.mp e
    rw [List.getElem?_eq_none_iff.mpr (by rw [List.length_map, List.length_range]; exact this)]
  | some y =>
    have hi : i < n := by rw [← hl]; exact (List.getElem?_eq_some_iff.mp e).1
    rw [List.getElem?_map, List.getElem?_range hi, h i y e]
    rfl
section
variable {K : PySem.W.Frag} {c cls : Value} {i : Nat} {ts : Addr → Value → Option Addr → TS} {Wout : WX} {D : Ends} {d : Option Addr} {σ : L2.St} {H : Hp}
theorem x_wAsT (e : PySem.W.exmOne K cls c = some true) (h : ∀ a, H a = none → ts a cls d { nx := fun σ' H' => D.nx (σ'.set i none) H', rt := D.rt, bk := fun σ' H' => D.bk (σ'.set i none) H', ct := fun σ' H' => D.ct (σ'.set i none) H' } (σ.set i (some (.ref a))) H) : wAs K c i ts Wout D cls d σ H :=
  ⟨true, e, fun _ => h, fun z => by cases z⟩
theorem x_wAsF (e : PySem.W.exmOne K cls c = some false) (h : Wout cls d σ H) : wAs K c i ts Wout D cls d σ H :=
  ⟨false, e, fun z => absurd z Bool.false_ne_true, fun _ => h⟩
theorem x_wOnlyT (e : PySem.W.exmOne K cls c = some true) (h : ∀ a, H a = none → ts a cls d D σ H) : wOnly K c ts Wout D cls d σ H :=
  ⟨true, e, fun _ => h, fun z => by cases z⟩
theorem x_wOnlyF (e : PySem.W.exmOne K cls c = some false) (h : Wout cls d σ H) : wOnly K c ts Wout D cls d σ H :=
  ⟨false, e, fun z => absurd z Bool.false_ne_true, fun _ => h⟩
end
end SP

set_option Elab.async false
set_option linter.all false
set_option maxRecDepth 100000
set_option maxHeartbeats 4000000
/-! Disks. -/
namespace SP
open PySem PySem.Spec PyProof.Rows L2
local macro_rules | `(tactic| walk_at "hp") => `(tactic| first
  | assumption
  | exact upd_same
  | (refine' sameAt ?sA ?hA; (case sA => assumption); (case hA => walk_at "hp"))
  | (refine' Eq.trans (upd_ne ?nA) ?hA; (case nA => walk_at "ne"); (case hA => walk_at "hp")))
local macro_rules | `(tactic| walk_at "ne") => `(tactic| first
  | assumption
  | (refine' Ne.symm ?hA; assumption)
  | (refine' ne_of_none (H := _) ?hA (by assumption); walk_at "hp")
  | (refine' Ne.symm (ne_of_none (H := _) ?hA (by assumption)); walk_at "hp")
  | (refine' ne_of ?hA ?hB ?hC; (case hA => assumption); (case hB => walk_at "hp"); (case hC => (intro z; cases z))))
local macro_rules | `(tactic| walk_at "sm") => `(tactic| first
  | exact Same.refl _
  | assumption
  | (refine' sameTr ?sA ?sB; (case sA => assumption); (case sB => walk_at "sm")))
local macro_rules | `(tactic| walk_at "dm") => `(tactic| first
  | exact dmRefl
  | assumption
  | (refine' dmUpd ?dA; (case dA => walk_at "dm"))
  | (refine' dmSame ?sA ?dA; (case sA => assumption); (case dA => walk_at "dm")))
local macro_rules | `(tactic| walk_at "fr") => `(tactic| first
  | assumption
  | (refine' dmAt ?dA ?hA; (case hA => assumption); (case dA => walk_at "dm")))
local macro_rules | `(tactic| walk_at "ab") => `(tactic| (exfalso; refine absurd ?hA (noneSome ?hB); (case hB => walk_at "hp"); (case hA => assumption)))
local macro_rules | `(tactic| walk_at "kp") => `(tactic| first
  | exact Keep.refl
  | assumption
  | (refine' Keep.trans ?kA (keepUpd ?kB ?kC ?kD); (case kB => simp); (case kC => walk_at "hp"); (case kD => (intro xs z; cases z)); (case kA => walk_at "kp"))
  | (refine' keepTr ?kB ?kA; (case kB => assumption); (case kA => walk_at "kp"))
  | (refine' keepSm ?kB ?kA; (case kB => assumption); (case kA => walk_at "kp")))
local macro_rules | `(tactic| walk_at "get") => `(tactic| first
  | (refine' x_get_Files_state ?T ?h ?_) | (refine' x_get_Thing_kind ?T ?h ?_) | (refine' x_get_Thing_entries ?T ?h ?_) | (refine' x_get_Thing_held ?T ?h ?_)
  | (refine' x_get_Files_disk ?T ?h ?_) | (refine' x_get_Files_kept ?T ?h ?_) | (refine' x_get_Files_used ?T ?h ?_)
  | (refine' x_get_Disk_blocks ?T ?h ?_) | (refine' x_get_Disk_log ?T ?h ?_)
  | (refine' x_get_Reader_row ?T ?h ?_) | (refine' x_get_Reader_at ?T ?h ?_) | (refine' x_get_Reader_good ?T ?h ?_)
  | (refine' x_get_Files_slot ?T ?h ?_) | (refine' x_get_Files_turn ?T ?h ?_) | (refine' x_get_Files_is_new ?T ?h ?_))
local macro_rules | `(tactic| walk_at "set") => `(tactic| first
  | ((with_reducible refine' x_set_Disk_blocks ?T ?h ?_); (case T => assumption); (case h => walk_at "hp"))
  | ((with_reducible refine' i_set_Disk_blocks ?T ?h ?_); (case T => assumption); (case h => walk_at "hp"))
  | ((with_reducible refine' x_set_Disk_log ?T ?h ?_); (case T => assumption); (case h => walk_at "hp"))
  | ((with_reducible refine' i_set_Disk_log ?T ?h ?_); (case T => assumption); (case h => walk_at "hp"))
  | ((with_reducible refine' x_set_Thing_kind ?T ?h ?_); (case T => assumption); (case h => walk_at "hp"))
  | ((with_reducible refine' i_set_Thing_kind ?T ?h ?_); (case T => assumption); (case h => walk_at "hp"))
  | ((with_reducible refine' x_set_Thing_held ?T ?h ?_); (case T => assumption); (case h => walk_at "hp"))
  | ((with_reducible refine' i_set_Thing_held ?T ?h ?_); (case T => assumption); (case h => walk_at "hp"))
  | ((with_reducible refine' x_set_Thing_entries ?T ?h ?_); (case T => assumption); (case h => walk_at "hp"))
  | ((with_reducible refine' i_set_Thing_entries ?T ?h ?_); (case T => assumption); (case h => walk_at "hp"))
  | ((with_reducible refine' x_set_Reader_row ?T ?h ?_); (case T => assumption); (case h => walk_at "hp"))
  | ((with_reducible refine' i_set_Reader_row ?T ?h ?_); (case T => assumption); (case h => walk_at "hp"))
  | ((with_reducible refine' x_set_Reader_at ?T ?h ?_); (case T => assumption); (case h => walk_at "hp"))
  | ((with_reducible refine' i_set_Reader_at ?T ?h ?_); (case T => assumption); (case h => walk_at "hp"))
  | ((with_reducible refine' x_set_Reader_good ?T ?h ?_); (case T => assumption); (case h => walk_at "hp"))
  | ((with_reducible refine' i_set_Reader_good ?T ?h ?_); (case T => assumption); (case h => walk_at "hp"))
  | ((with_reducible refine' x_set_Files_disk ?T ?h ?_); (case T => assumption); (case h => walk_at "hp"))
  | ((with_reducible refine' i_set_Files_disk ?T ?h ?_); (case T => assumption); (case h => walk_at "hp"))
  | ((with_reducible refine' x_set_Files_state ?T ?h ?_); (case T => assumption); (case h => walk_at "hp"))
  | ((with_reducible refine' i_set_Files_state ?T ?h ?_); (case T => assumption); (case h => walk_at "hp"))
  | ((with_reducible refine' x_set_Files_kept ?T ?h ?_); (case T => assumption); (case h => walk_at "hp"))
  | ((with_reducible refine' i_set_Files_kept ?T ?h ?_); (case T => assumption); (case h => walk_at "hp"))
  | ((with_reducible refine' x_set_Files_slot ?T ?h ?_); (case T => assumption); (case h => walk_at "hp"))
  | ((with_reducible refine' i_set_Files_slot ?T ?h ?_); (case T => assumption); (case h => walk_at "hp"))
  | ((with_reducible refine' x_set_Files_turn ?T ?h ?_); (case T => assumption); (case h => walk_at "hp"))
  | ((with_reducible refine' i_set_Files_turn ?T ?h ?_); (case T => assumption); (case h => walk_at "hp"))
  | ((with_reducible refine' x_set_Files_used ?T ?h ?_); (case T => assumption); (case h => walk_at "hp"))
  | ((with_reducible refine' i_set_Files_used ?T ?h ?_); (case T => assumption); (case h => walk_at "hp"))
  | ((with_reducible refine' x_set_Files_is_new ?T ?h ?_); (case T => assumption); (case h => walk_at "hp"))
  | ((with_reducible refine' i_set_Files_is_new ?T ?h ?_); (case T => assumption); (case h => walk_at "hp")))
local macro_rules | `(tactic| walk_at "go1") => `(tactic| first
  | ((with_reducible refine w_var (v := ?vv) ?e ?_); (case e => rfl))
  | ((with_reducible walk_at "get"); (case T => assumption); (case h => walk_at "hp"))
  | (with_reducible refine x_bl ?_)
  | (with_reducible refine x_isN ?_) | (with_reducible refine x_notN ?_) | (with_reducible refine x_eqI ?_) | (with_reducible refine x_neI ?_) | (with_reducible refine x_eqS ?_) | (with_reducible refine x_neS ?_)
  | (with_reducible refine x_addI ?_) | (with_reducible refine x_subI ?_) | (with_reducible refine x_ltI ?_) | (with_reducible refine x_leI ?_) | (with_reducible refine x_gtI ?_) | (with_reducible refine x_geI ?_)
  | (with_reducible refine x_bv ?_) | (with_reducible refine x_part ?_) | (with_reducible refine x_neg ?_) | (with_reducible refine x_inS ?_)
  | (walk_at "set")
  | ((with_reducible refine' x_bmL ?h ?_); (case h => walk_at "hp")) | ((with_reducible refine' x_bmL0 ?h ?_); (case h => walk_at "hp")))
local macro_rules | `(tactic| walk_at "go") => `(tactic| ((try with_reducible (conv => whnf)); repeat ((walk_at "go1"); (try with_reducible (conv => whnf)))))
/-! what stands for a disk -/
def oBlk : Option (List Int) → Option (List V)
  | none => none
  | some b => some (b.map V.int)
/-- a block's value -/
def BlkV (H : Hp) : V → Option (List Int) → Prop
  | v, none => v = .non
  | v, some b => ∃ p, v = .ref p ∧ H p = some (.tup (b.map V.int))
theorem BlkV.le {H H' : Hp} (e : Le H H') : ∀ {v : V} {b : Option (List Int)}, BlkV H v b → BlkV H' v b
  | _, none, h => h
  | _, some _, ⟨p, e1, e2⟩ => ⟨p, e1, e.tup e2⟩
/-- an entry of a log -/
inductive Ent where
  | wr (n : Int) (b : List Int)
  | bar
def EntV (H : Hp) (v : V) : Ent → Prop
  | .wr n b => ∃ p q, v = .ref p ∧ H p = some (.tup [.str "write", .int n, .ref q]) ∧ H q = some (.tup (b.map V.int))
  | .bar => ∃ p, v = .ref p ∧ H p = some (.tup [.str "barrier"])
/-- a disk at d, its blocks' list at bl, its log at lg -/
structure DiskAt (K : PySem.W.Frag) (H : Hp) (d bl lg : Addr) (B : List (Option (List Int))) (E : List Ent) : Prop where
  o : ∃ dx, H d = some (oDisk K dx (.ref bl) (.ref lg))
  b : ∃ vs, H bl = some (.lst vs) ∧ Paired (BlkV H) vs B
  l : ∃ vs, H lg = some (.lst vs) ∧ Paired (EntV H) vs E
  ne : bl ≠ lg
theorem BlkV.tu {H H' : Hp} (t : ∀ a xs, H a = some (.tup xs) → H' a = some (.tup xs)) : ∀ {v : V} {b : Option (List Int)}, BlkV H v b → BlkV H' v b
  | _, none, h => h
  | _, some _, ⟨p, e1, e2⟩ => ⟨p, e1, t _ _ e2⟩
theorem EntV.tu {H H' : Hp} (t : ∀ a xs, H a = some (.tup xs) → H' a = some (.tup xs)) : ∀ {v : V} {e : Ent}, EntV H v e → EntV H' v e
  | _, .wr _ _, ⟨p, q, e1, e2, e3⟩ => ⟨p, q, e1, t _ _ e2, t _ _ e3⟩
  | _, .bar, ⟨p, e1, e2⟩ => ⟨p, e1, t _ _ e2⟩
/-- a disk of others stands -/
theorem DiskAt.keep {K : PySem.W.Frag} {H H' : Hp} {d bl lg : Addr} {B : List (Option (List Int))} {E : List Ent} {ms : List Addr} (D : DiskAt K H d bl lg B E) (k : Keep ms H H') (h1 : d ∉ ms) (h2 : bl ∉ ms) (h3 : lg ∉ ms) : DiskAt K H' d bl lg B E := by
  obtain ⟨⟨dx, o⟩, ⟨vs, b, pb⟩, ⟨ws, l, pl⟩, ne⟩ := D
  exact ⟨⟨dx, k.k _ _ h1 o⟩, ⟨vs, k.k _ _ h2 b, L2.Paired.mapP pb fun _ _ z => z.tu k.t⟩, ⟨ws, k.k _ _ h3 l, L2.Paired.mapP pl fun _ _ z => z.tu k.t⟩, ne⟩
theorem DiskAt.same {K : PySem.W.Frag} {H H' : Hp} {d bl lg : Addr} {B : List (Option (List Int))} {E : List Ent} (D : DiskAt K H d bl lg B E) (s : Same H H') : DiskAt K H' d bl lg B E := D.keep (ms := []) (Keep.of s) (by simp) (by simp) (by simp)
theorem DiskAt.neD {K : PySem.W.Frag} {H : Hp} {d bl lg : Addr} {B : List (Option (List Int))} {E : List Ent} (D : DiskAt K H d bl lg B E) : d ≠ bl ∧ d ≠ lg := by
  obtain ⟨⟨dx, o⟩, ⟨vs, b, pb⟩, ⟨ws, l, pl⟩, ne⟩ := D
  exact ⟨ne_of o b (by intro z; cases z), ne_of o l (by intro z; cases z)⟩
theorem flat_one {α : Type} (x : α) : ∀ n : Nat, (List.replicate n [x]).flatten = List.replicate n x
  | 0 => rfl
  | n + 1 => by rw [List.replicate_succ, List.flatten_cons, flat_one x n]; rfl
theorem paired_rep {α β : Type} {F : α → β → Prop} {a : α} {b : β} (h : F a b) : ∀ {n : Nat}, Paired F (List.replicate n a) (List.replicate n b)
  | 0 => .nil
  | n + 1 => .cons h (paired_rep h)
/-! ### Disk.__init__ -/
def sp_Disk___init__ (K : PySem.W.Frag) : Sp := fun vs H Q E => ∃ (p dx : Addr) (n : Int), vs = [.ref p, .int n] ∧ H p = some (.ins (He.ga K "Disk") dx []) ∧
  if 16 ≤ n ∧ n ≤ 256 then ∀ bl lg H', H bl = none → H lg = none → Keep [p] H H' → DiskAt K H' p bl lg (List.replicate n.toNat (some (List.replicate 64 0))) [] → Q .non H'
  else ∀ H', Same H H' → Exn K E "TooGreat" H'
def t_Disk___init__ (K : PySem.W.Frag) (W : WX) : TS := uSeq (uIfS (uNot (uTest (uChain rLeI rLeI (uC (.int 16)) (tVar 1) (uC (.int 256))))) (uRaiseW W (He.ga K "TooGreat")) uNext)
    (uSeq (uFldS K (tVar 0) (uOp rRep (uLst (uCons (uOp (rRepT K) (uTup (uCons (uC (.int 0)) uNil)) (uC (.int 64))) uNil)) (tVar 1)) "blocks")
    (uFldS K (tVar 0) (uLst uNil) "log"))
theorem pure_Disk___init__ {K : PySem.W.Frag} (T : PxDisk K) {vs : List V} {H : Hp} {Q : VK} {E : XK} (h : sp_Disk___init__ K vs H Q E) : t_Disk___init__ K (fun c d _ H => E c d H) (fin Q) (start ["self", "count"] vs) H := by
  obtain ⟨p, dx, n, rfl, hp, k⟩ := h
  show t_Disk___init__ K _ (fin Q) [some (.ref p), some (.int n)] H
  unfold t_Disk___init__
  by_cases c : 16 ≤ n ∧ n ≤ 256
  · rw [if_pos c] at k
    walk_at "go"
    refine x_ifT (decide_eq_true c.1) ?_
    walk_at "go"
    refine x_ifF (by rw [decide_eq_true c.2]; rfl) ?_
    walk_at "go"
    refine x_tup fun t H1 nt ht s1 => ?_
    walk_at "go"
    refine x_repT ht (fun z => by cases z) (by decide) (by decide) (by decide) fun t2 H2 nt2 ht2 s2 => ?_
    walk_at "go"
    refine x_lst fun l H3 nl hl s3 => ?_
    walk_at "go"
    refine x_rep hl (by omega) (by omega) (by rw [sizeLine_eq]; show 1 * n.toNat ≤ _; omega) fun b H4 nb hb s4 => ?_
    walk_at "go"
    refine x_lst fun g H5 ng hg s5 => ?_
    walk_at "go"
    refine k b g _ (by walk_at "fr") (by walk_at "fr") (by walk_at "kp") ⟨⟨dx, upd_same⟩, ⟨(List.replicate n.toNat [V.ref t2]).flatten, by walk_at "hp", ?_⟩, ⟨[], by walk_at "hp", .nil⟩, ?_⟩
    · rw [flat_one]
      have hb : (upd H5 p (HO.ins (He.ga K "Disk") dx [("blocks", V.ref b), ("log", V.ref g)])) t2 = some (.tup ((List.replicate 64 0).map V.int)) := by
        have e : ((List.replicate 64 (0 : Int)).map V.int) = (List.replicate (Int.toNat 64) [V.int 0]).flatten := by rw [flat_one, List.map_replicate] <;> rfl
        rw [e]
        walk_at "hp"
      exact paired_rep ⟨t2, rfl, hb⟩
    · intro z
      subst z
      exact absurd (freeUpd ng) (noneSome hb)
  · rw [if_neg c] at k
    walk_at "go"
    refine x_if (fun h1 => ?_) (fun h1 => ?_)
    · walk_at "go"
      refine x_ifT ?_ ?_
      · have h2 := of_decide_eq_true h1
        rw [decide_eq_false (fun z => c ⟨h2, z⟩)]
        rfl
      · walk_at "go"
        exact k H (Same.refl H)
    · walk_at "go"
      refine x_ifT rfl ?_
      walk_at "go"
      exact k H (Same.refl H)
/-! ### Disk.read, write, barrier -/
def t_Disk_read (K : PySem.W.Frag) (W : WX) : TS := uRet (uOp (rIxL K) (uFld K (tVar 0) "blocks") (tVar 1))
def sp_Disk_read (K : PySem.W.Frag) : Sp := fun vs H Q E => ∃ (p bl lg : Addr) (n : Int) (B : List (Option (List Int))) (L : List Ent) (b : Option (List Int)), vs = [.ref p, .int n] ∧ DiskAt K H p bl lg B L ∧ 0 ≤ n ∧ B[n.toNat]? = some b ∧ ∀ v, BlkV H v b → Q v H
theorem paired_at {α β : Type} {F : α → β → Prop} : ∀ {l1 : List α} {l2 : List β} {i : Nat} {b : β}, Paired F l1 l2 → l2[i]? = some b → ∃ a, l1[i]? = some a ∧ F a b
  | _, _, _, _, .nil, h => by simp at h
  | _, _, 0, _, .cons r _, h => ⟨_, rfl, by simp at h; subst h; exact r⟩
  | _, _, i + 1, b, .cons _ t, h => by
    obtain ⟨a, e, f⟩ := paired_at (i := i) (b := b) t (by simpa using h)
    exact ⟨a, by simpa using e, f⟩
theorem paired_set {α β : Type} {F : α → β → Prop} {a : α} {b : β} (r : F a b) : ∀ {l1 : List α} {l2 : List β} (i : Nat), Paired F l1 l2 → Paired F (l1.set i a) (l2.set i b)
  | _, _, _, .nil => .nil
  | _, _, 0, .cons _ t => .cons r t
  | _, _, i + 1, .cons q t => .cons q (paired_set r i t)
theorem ixN_nat {n : Nat} {i : Int} (h0 : 0 ≤ i) (h : i.toNat < n) : ixN n i = some i.toNat := by
  unfold ixN
  rw [if_pos h0, if_pos (by omega)]
theorem atI_of {α : Type} {xs : List α} {i : Int} {x : α} (h0 : 0 ≤ i) (h : xs[i.toNat]? = some x) : atI xs i = some x := by
  unfold atI
  rw [ixN_nat h0 (List.getElem?_eq_some_iff.mp h).1]
  exact h
theorem pure_Disk_read {K : PySem.W.Frag} (T : PxDisk K) {vs : List V} {H : Hp} {Q : VK} {E : XK} (h : sp_Disk_read K vs H Q E) : t_Disk_read K (WE1 E) (fin Q) (start ["self", "number"] vs) H := by
  obtain ⟨p, bl, lg, n, B, L, b, rfl, ⟨⟨dx, ho⟩, ⟨vs, hb, pb⟩, _, _⟩, h0, hn, k⟩ := h
  show t_Disk_read K _ (fin Q) [some (.ref p), some (.int n)] H
  unfold t_Disk_read
  walk_at "go"
  obtain ⟨v, hv, bv⟩ := paired_at pb hn
  exact x_ixL (SqL.of hb) (atI_of h0 hv) (k v bv)
def t_Disk_write (K : PySem.W.Frag) (W : WX) : TS := uSeq (uAsg (tVar 2) (vSub (uFld K (tVar 0) "blocks") (tVar 1) rSetL))
    (uDrop (uBM K "list" rAppend (uFld K (tVar 0) "log") (uCons (uTup (uCons (uC (.str "write")) (uCons (tVar 1) (uCons (tVar 2) uNil)))) uNil)))
/-- a block is written: its tuple stands at q -/
def sp_Disk_write (K : PySem.W.Frag) : Sp := fun vs H Q E => ∃ (p bl lg q : Addr) (n : Int) (B : List (Option (List Int))) (L : List Ent) (b : List Int), vs = [.ref p, .int n, .ref q] ∧ DiskAt K H p bl lg B L ∧ 0 ≤ n ∧ n.toNat < B.length ∧ L.length ≤ 100000 ∧ H q = some (.tup (b.map V.int)) ∧
  ∀ H', Keep [bl, lg] H H' → DiskAt K H' p bl lg (B.set n.toNat (some b)) (L ++ [.wr n b]) → Q .non H'
theorem Paired.len {α β : Type} {F : α → β → Prop} : ∀ {l1 : List α} {l2 : List β}, Paired F l1 l2 → l1.length = l2.length
  | _, _, .nil => rfl
  | _, _, .cons _ t => by rw [List.length_cons, List.length_cons, Paired.len t]
theorem pure_Disk_write {K : PySem.W.Frag} (T : PxDisk K) {vs : List V} {H : Hp} {Q : VK} {E : XK} (h : sp_Disk_write K vs H Q E) : t_Disk_write K (WE1 E) (fin Q) (start ["self", "number", "block"] vs) H := by
  obtain ⟨p, bl, lg, q, n, B, L, b, rfl, D, h0, hn, hl, hq, k⟩ := h
  obtain ⟨np, np2⟩ := D.neD
  obtain ⟨⟨dx, ho⟩, ⟨vs, hb, pb⟩, ⟨ws, hw, pw⟩, ne⟩ := D
  show t_Disk_write K _ (fin Q) [some (.ref p), some (.int n), some (.ref q)] H
  unfold t_Disk_write
  walk_at "go"
  refine x_setL hb (ixN_nat h0 (by rw [Paired.len pb]; exact hn)) ?_
  walk_at "go"
  refine x_tup fun t H1 nt ht s1 => ?_
  walk_at "go"
  have hq2 : ∀ {o : HO}, upd H bl o q = some (.tup (b.map V.int)) := fun {o} => by
    rw [upd_ne (ne_of hq hb (by intro z; cases z))]
    exact hq
  refine x_app (xs := ws) (by walk_at "hp") (Nat.lt_of_le_of_lt (by rw [Paired.len pw]; exact hl) (by rw [sizeLine_eq]; decide)) ?_
  have kk : Keep [bl, lg] H (upd H1 lg (.lst (ws ++ [.ref t]))) := by walk_at "kp"
  refine k _ kk ⟨⟨dx, kk.k _ _ (by simp [np, np2]) ho⟩, ⟨vs.set n.toNat (.ref q), ?_, ?_⟩, ⟨ws ++ [.ref t], upd_same, ?_⟩, ne⟩
  · rw [upd_ne ne]
    exact s1 _ _ upd_same
  · exact paired_set (F := BlkV _) (b := some b) ⟨q, rfl, kk.t _ _ hq⟩ _ (L2.Paired.mapP pb fun _ _ z => z.tu kk.t)
  · refine Paired.snoc (L2.Paired.mapP pw fun _ _ z => z.tu kk.t) ⟨t, q, rfl, ?_, kk.t _ _ hq⟩
    rw [upd_ne (ne_of ht (s1 _ _ (show (upd H bl _) lg = some (.lst ws) by rw [upd_ne (Ne.symm ne)]; exact hw)) (by intro z; cases z))]
    exact ht
def t_Disk_barrier (K : PySem.W.Frag) (W : WX) : TS := uDrop (uBM K "list" rAppend (uFld K (tVar 0) "log") (uCons (uTup (uCons (uC (.str "barrier")) uNil)) uNil))
def sp_Disk_barrier (K : PySem.W.Frag) : Sp := fun vs H Q E => ∃ (p bl lg : Addr) (B : List (Option (List Int))) (L : List Ent), vs = [.ref p] ∧ DiskAt K H p bl lg B L ∧ L.length ≤ 100000 ∧
  ∀ H', Keep [lg] H H' → DiskAt K H' p bl lg B (L ++ [.bar]) → Q .non H'
theorem pure_Disk_barrier {K : PySem.W.Frag} (T : PxDisk K) {vs : List V} {H : Hp} {Q : VK} {E : XK} (h : sp_Disk_barrier K vs H Q E) : t_Disk_barrier K (WE1 E) (fin Q) (start ["self"] vs) H := by
  obtain ⟨p, bl, lg, B, L, rfl, D, hl, k⟩ := h
  obtain ⟨np, np2⟩ := D.neD
  obtain ⟨⟨dx, ho⟩, ⟨vs, hb, pb⟩, ⟨ws, hw, pw⟩, ne⟩ := D
  show t_Disk_barrier K _ (fin Q) [some (.ref p)] H
  unfold t_Disk_barrier
  walk_at "go"
  refine x_tup fun t H1 nt ht s1 => ?_
  walk_at "go"
  refine x_app (xs := ws) (by walk_at "hp") (Nat.lt_of_le_of_lt (by rw [Paired.len pw]; exact hl) (by rw [sizeLine_eq]; decide)) ?_
  have kk : Keep [lg] H (upd H1 lg (.lst (ws ++ [.ref t]))) := by walk_at "kp"
  refine k _ kk ⟨⟨dx, kk.k _ _ (by simp [np2]) ho⟩, ⟨vs, kk.k _ _ (by simp [ne]) hb, L2.Paired.mapP pb fun _ _ z => z.tu kk.t⟩, ⟨ws ++ [.ref t], upd_same, ?_⟩, ne⟩
  refine Paired.snoc (L2.Paired.mapP pw fun _ _ z => z.tu kk.t) ⟨t, rfl, ?_⟩
  rw [upd_ne (ne_of ht (s1 _ _ hw) (by intro z; cases z))]
  exact ht
end SP

set_option Elab.async false
set_option linter.all false
set_option maxRecDepth 100000
set_option maxHeartbeats 4000000
/-! Defs called in an except suite that take the exception itself; counts over flat items; isinstance there. -/
namespace SP
open PySem PySem.Spec PyProof.Rows L2 L2H

/-! ### list.count of flat items -/
section
variable {X : Cx}
def rCntF (K : PySem.W.Frag) : V → List V → Hp → VK → Prop := fun x xs H Q => ∃ (a : Addr) (ys : List V) (y : V), x = V.ref a ∧ xs = [y] ∧ SqL K H a ys ∧ flatV y = true ∧ ys.all flatV = true ∧ Q (.int ((ys.countP fun z => eqV z y : Nat) : Int)) H
theorem count_eqU {x : V} : ∀ {xs : List V} {us : List Value}, Vals xs us → xs.all flatV = true → us.countP (eqU x) = xs.countP fun y => eqV y x
  | _, _, .nil, _ => rfl
  | x0 :: xs, u0 :: us, .cons r t, f => by
    rw [List.all_cons, Bool.and_eq_true] at f
    rw [List.countP_cons, List.countP_cons, eqU_of r f.1, count_eqU t f.2]
theorem mt_countF : MtR X "list.count" (rCntF X.K) := by
  intro pins s σ H x xs v us Q I rx rxs h
  obtain ⟨a, ys, y, rfl, rfl, hs, fy, fys, q⟩ := h
  cases rx
  cases rxs with
  | cons ry rt =>
    rename_i uy ut
    cases rt
    obtain ⟨its, rv, ⟨⟨cls, dd, data, sl⟩, n, ho, hc, hdn, hd⟩, hlen⟩ := I.list hs
    simp only at hc hd
    subst hc hd
    refine call_meets PySem.F.slot_list_count ⟨_, ho, rfl⟩ PySem.F.entry_list_count (PySem.F.args_list_count_2 _ _)
      (SeqAt.list_countAt a its.toArray n dd sl uy (eqU y)) ⟨ho, fun u' hu' => mem_eqAt ry fy rv fys u' (by simpa using hu'), ?_⟩
    have ec : its.toArray.toList.countP (eqU y) = ys.countP fun z => eqV z y := count_eqU rv fys
    refine ⟨.int ((ys.countP fun z => eqV z y : Nat) : Int), H, I.tok _, ⟨s.toks, ?_⟩, q⟩
    show Value.int ((its.toArray.toList.countP (eqU y) : Nat) : Int) s.toks = _
    rw [ec]
end

/-! ### a def in an except suite that is handed the exception -/
structure FnP (P : Program) (w : World) (K : PySem.W.Frag) (mg : Str → Option Value) (base : Heap) (k : Nat) (f : Addr) (fd : FuncData) (ps : List Str) (sp : Addr × Obj → Sp) : Prop where
  len : ∀ p vs H Q E, sp p vs H Q E → vs.length = ps.length
  run : ∀ (A : Around) (outer : List Env) (s : Shared) (H : Hp) (args : Args) (us : List Value) (vs : List V) (Q : VK) (E : XK) (p : Addr × Obj), RoomH k A → PinOk outer H s p → Env0 P w K mg base A outer s H → BindsTo s fd args (ps.zip us) → Vals vs us → sp p vs H Q E →
    codeAny (model P w) A (.call (.ref f) args) (CR (L2.CX P w) outer P w H s Q E) s
theorem fn_ofP {P : Program} {w : World} {K : PySem.W.Frag} {mg : Str → Option Value} {base : Heap} {k : Nat} {f : Addr} {name qual : Str} {params : Arguments} {body : List Stmt} {scope : Scope} {fd : FuncData}
    {N ps : List Str} {sp : Addr × Obj → Sp} (F : FunD K name qual params body scope [] [] f fd) (S : FnScope N ps scope)
    (len : ∀ p vs H Q E, sp p vs H Q E → vs.length = ps.length)
    (hbody : ∀ (cdv : Value) (A : Around) (outer : List Env) (s : Shared) (H : Hp) (vs : List V) (Q : VK) (E : XK) (p : Addr × Obj), RoomH k (A.deeper (envOfC qual scope s.heap.objs.size f cdv)) → sp p vs H Q E →
      ∃ t, PSs (cxH (L2.CX P w) P w K mg base N qual scope f cdv A outer s H E p) body t ∧ t { nx := fun _ H' => Q .non H', rt := Q } (L2.start N vs) H) :
    FnP P w K mg base (k + 1) f fd ps sp := by
  obtain ⟨oc, od, dV, kV, doc, pm, an, cdv, ct, osl, rfl, lk, hcd, _, _⟩ := F.ex
  refine ⟨len, fun A outer s H args us vs Q E p hr hpin e0 hb r hsp => ?_⟩
  have hl := len _ _ _ _ _ hsp
  have KX : K.In s.heap := e0.mod.kin.keeps fun b o e => (e0.bs b o e).1
  have lim : s.heap.NoLimit := e0.mod.nolimit.keeps fun b o e => (e0.bs b o e).1
  have hkind : ∀ y ∈ ps.zip us, scope.names.lookup y.1 = some .local ∨ (scope.names.lookup y.1 = some .cell ∧ ((cellsFrom (s.heap.objs.size + 1) scope.names []).lookup y.1).isSome = true) := fun ⟨n, v⟩ hy => by
    rcases S.par n (List.of_mem_zip hy).1 with q | q
    · exact .inl q
    · exact .inr ⟨q, PySem.W.cellsFrom_some _ _ _ (.inl q)⟩
  refine codeAny_call_function hr.depth (KX _ _ lk) rfl S.co S.gen rfl (PySem.W.codeRec_of KX hcd) (hb _ _ _ _ ?_)
  refine wpAny_newFunctionEnv_cells S.kind hkind fun env he s1 x => ?_
  subst he
  refine ⟨lim.keeps x.toInCall.keep, codeAny_func ?_⟩
  obtain ⟨t, ht, hq⟩ := hbody cdv A outer s H vs Q E p (hr.deeper _) hsp
  have I : Inv (cxH (L2.CX P w) P w K mg base N qual scope f cdv A outer s H E p) [] (L2.start N vs) H s1 := inv_startH S hpin e0 hl r x
  refine wpAny_mono (ht.run [] s1 (L2.start N vs) H _ I hq) (fun fl s' hs => ?_) fun e s' hs => hs
  have fin : ∀ {σ' : L2.St} {H' : Hp} {v : V} {u : Value}, Inv (cxH (L2.CX P w) P w K mg base N qual scope f cdv A outer s H E p) [] σ' H' s' → RelV v u → Q v H' → CE outer P w H s Q u s' :=
    fun {σ' H' v u} J rv q => ⟨v, H', J.os, J.bare, J.base, J.hok, rv, q⟩
  cases fl with
  | ret u =>
    obtain ⟨v, σ', H', J, rv, q⟩ := hs
    exact fin J rv q
  | next =>
    obtain ⟨σ', H', J, q⟩ := hs
    exact fin (v := V.non) (u := Value.none) J rfl q
  | brk =>
    obtain ⟨_, _, _, q⟩ := hs
    exact False.elim q
  | cont =>
    obtain ⟨_, _, _, q⟩ := hs
    exact False.elim q
section
variable {X : Cx} {k : Nat} {f : Addr} {fd : FuncData} {ps : List Str} {sp : Addr × Obj → Sp} {x : Str} {q pos : Pos} {e : Expr} {es : List Expr} {t : TA} {p : Addr × Obj}
def tCallP (sp : Sp) (t : TA) : TE := fun σ H Q => t σ H fun vs H1 => sp vs H1 Q fun _ _ _ => False
theorem pe_callP (F : FnP X.prog X.w X.K X.mg X.base k f fd ps sp) (hr : RoomH k X.A) (hp : p ∈ X.pn) (hm : X.mg x = some (.ref f)) (hk : PySem.W.keepIn X.K (.ref f) = true) (hb : Binds X.K fd ps [])
    (ha : PA X (e :: es) t) (hg : Gl X x := by rfl) (hdb : (x == ("__debug__" : Str)) = false := by decide) (he : starEach (e :: es) X.env = (false, eval e X.env) :: starEach es X.env := by rfl) (hpl : (backTo pos (starEach es X.env)).any (·.1) = false := by rfl) :
    PE X (.Call (.Name x q) (e :: es) [] pos) (tCallP (sp p) t) := by
  refine ⟨fun pins s σ H Q I h => ?_⟩
  refine wpAny_Call_Name_kw (ld_glob I hg hm ?_ hdb)
  refine PySem.W.callWith_K (h₀ := X.base) I.ok.mod.kin hk (thn (ha.run pos pins s σ H _ I h) fun us s1 ⟨vs, H1, I1, r, q⟩ => ⟨I1.kIn, ?_⟩) he hpl
  have hl : us.length = ps.length := by rw [← r.length]; exact F.len _ _ _ _ _ q
  have b := hb s1 us I1.kIn (by rw [List.append_nil]; exact hl)
  rw [List.append_nil] at b
  have P1 := I1.pin p (List.mem_append_left _ hp)
  have hpin : PinOk X.stack H1 s1 p := ⟨P1.1, P1.2.1, fun hm => (List.mem_cons.mp (I1.stkSub p.1 hm)).elim P1.2.2.1 P1.2.2.2.1, P1.2.2.2.2⟩
  refine wpAny_call (codeAny_mono (F.run X.A X.stack s1 H1 ⟨us, []⟩ us vs Q _ p hr hpin I1.env0 b r q) fun r s' hq => ?_)
  cases r with
  | error e => exact (passAt (W := fun _ _ _ _ => False) takes0 σ pins H1 s1 e s' I1 hq)
  | ok fl =>
    cases fl with
    | ret u => exact I1.after hq
    | next => exact False.elim hq
    | brk => exact False.elim hq
    | cont => exact False.elim hq
/-- isinstance of the exception that is pinned -/
theorem call_isP {a D : Addr} {oe : Obj} (C : ExcC X.K D) (hz : Zc (.ref D) none oe) (hf : ∃ vs, oe.data = .fields vs) (hp : (a, oe) ∈ X.pn) : CallR X (.builtin "isinstance") (rIsE X.K D a) := by
  intro pins s σ H xs us Q I r h
  obtain ⟨c, cv, b, rfl, hcv, e, q⟩ := h
  cases r with
  | cons rx rr =>
    cases rr with
    | cons rt rr =>
      cases rr
      cases rx
      have ec := hcv _ rt
      subst ec
      obtain ⟨hget, _⟩ := I.pin (a, oe) (List.mem_append.mpr (.inl hp))
      obtain ⟨vs, hv⟩ := hf
      have J : PySem.W.InstAt s.heap a oe D none := by
        obtain ⟨oc, od, oda, osl⟩ := oe
        obtain ⟨h1, h2⟩ := hz
        dsimp only at h1 h2 hv
        subst h1 h2 hv
        exact ⟨hget, rfl, rfl, trivial⟩
      exact PySem.W.kia_one (PySem.W.handS_kitx_exc C.hg C.hk C.hs C.hd C.ha C.hn C.ht C.hm) I.kIn J e (fun z => nomatch z) fun tk => ⟨.bl b, H, I.kept (t' := tk) fun _ _ z => z, rfl, q⟩
end
theorem roomP {k : Nat} {A : Around} (r : Room k A) (hd : Option Value) : RoomH k (A.mark hd) := ⟨r.dp, r.un⟩
end SP

set_option Elab.async false
set_option linter.all false
set_option maxRecDepth 100000
set_option maxHeartbeats 4000000
/-! What every law has: cells, drawn numbers, the word of a refusal. -/
namespace SP
open PySem PySem.Spec PyProof.Rows L2
local macro_rules | `(tactic| walk_at "hp") => `(tactic| first
  | assumption
  | exact upd_same
  | (refine' sameAt ?sA ?hA; (case sA => assumption); (case hA => walk_at "hp"))
  | (refine' Eq.trans (upd_ne ?nA) ?hA; (case nA => walk_at "ne"); (case hA => walk_at "hp")))
local macro_rules | `(tactic| walk_at "ne") => `(tactic| first
  | assumption
  | (refine' Ne.symm ?hA; assumption)
  | (refine' ne_of_none (H := _) ?hA (by assumption); walk_at "hp")
  | (refine' Ne.symm (ne_of_none (H := _) ?hA (by assumption)); walk_at "hp")
  | (refine' ne_of ?hA ?hB ?hC; (case hA => assumption); (case hB => walk_at "hp"); (case hC => (intro z; cases z))))
local macro_rules | `(tactic| walk_at "sm") => `(tactic| first
  | exact Same.refl _
  | assumption
  | (refine' sameTr ?sA ?sB; (case sA => assumption); (case sB => walk_at "sm")))
local macro_rules | `(tactic| walk_at "dm") => `(tactic| first
  | exact dmRefl
  | assumption
  | (refine' dmUpd ?dA; (case dA => walk_at "dm"))
  | (refine' dmSame ?sA ?dA; (case sA => assumption); (case dA => walk_at "dm")))
local macro_rules | `(tactic| walk_at "fr") => `(tactic| first
  | assumption
  | (refine' dmAt ?dA ?hA; (case hA => assumption); (case dA => walk_at "dm")))
local macro_rules | `(tactic| walk_at "ab") => `(tactic| (exfalso; refine absurd ?hA (noneSome ?hB); (case hB => walk_at "hp"); (case hA => assumption)))
local macro_rules | `(tactic| walk_at "kp") => `(tactic| first
  | exact Keep.refl
  | assumption
  | (refine' Keep.trans ?kA (keepUpd ?kB ?kC ?kD); (case kB => simp); (case kC => walk_at "hp"); (case kD => (intro xs z; cases z)); (case kA => walk_at "kp"))
  | (refine' keepTr ?kB ?kA; (case kB => assumption); (case kA => walk_at "kp"))
  | (refine' keepSm ?kB ?kA; (case kB => assumption); (case kA => walk_at "kp")))
local macro_rules | `(tactic| walk_at "get") => `(tactic| first
  | (refine' x_get_Files_state ?T ?h ?_) | (refine' x_get_Thing_kind ?T ?h ?_) | (refine' x_get_Thing_entries ?T ?h ?_) | (refine' x_get_Thing_held ?T ?h ?_)
  | (refine' x_get_Files_disk ?T ?h ?_) | (refine' x_get_Files_kept ?T ?h ?_) | (refine' x_get_Files_used ?T ?h ?_)
  | (refine' x_get_Disk_blocks ?T ?h ?_) | (refine' x_get_Disk_log ?T ?h ?_)
  | (refine' x_get_Reader_row ?T ?h ?_) | (refine' x_get_Reader_at ?T ?h ?_) | (refine' x_get_Reader_good ?T ?h ?_)
  | (refine' x_get_Files_slot ?T ?h ?_) | (refine' x_get_Files_turn ?T ?h ?_) | (refine' x_get_Files_is_new ?T ?h ?_))
local macro_rules | `(tactic| walk_at "set") => `(tactic| first
  | ((with_reducible refine' x_set_Disk_blocks ?T ?h ?_); (case T => assumption); (case h => walk_at "hp"))
  | ((with_reducible refine' i_set_Disk_blocks ?T ?h ?_); (case T => assumption); (case h => walk_at "hp"))
  | ((with_reducible refine' x_set_Disk_log ?T ?h ?_); (case T => assumption); (case h => walk_at "hp"))
  | ((with_reducible refine' i_set_Disk_log ?T ?h ?_); (case T => assumption); (case h => walk_at "hp"))
  | ((with_reducible refine' x_set_Thing_kind ?T ?h ?_); (case T => assumption); (case h => walk_at "hp"))
  | ((with_reducible refine' i_set_Thing_kind ?T ?h ?_); (case T => assumption); (case h => walk_at "hp"))
  | ((with_reducible refine' x_set_Thing_held ?T ?h ?_); (case T => assumption); (case h => walk_at "hp"))
  | ((with_reducible refine' i_set_Thing_held ?T ?h ?_); (case T => assumption); (case h => walk_at "hp"))
  | ((with_reducible refine' x_set_Thing_entries ?T ?h ?_); (case T => assumption); (case h => walk_at "hp"))
  | ((with_reducible refine' i_set_Thing_entries ?T ?h ?_); (case T => assumption); (case h => walk_at "hp"))
  | ((with_reducible refine' x_set_Reader_row ?T ?h ?_); (case T => assumption); (case h => walk_at "hp"))
  | ((with_reducible refine' i_set_Reader_row ?T ?h ?_); (case T => assumption); (case h => walk_at "hp"))
  | ((with_reducible refine' x_set_Reader_at ?T ?h ?_); (case T => assumption); (case h => walk_at "hp"))
  | ((with_reducible refine' i_set_Reader_at ?T ?h ?_); (case T => assumption); (case h => walk_at "hp"))
  | ((with_reducible refine' x_set_Reader_good ?T ?h ?_); (case T => assumption); (case h => walk_at "hp"))
  | ((with_reducible refine' i_set_Reader_good ?T ?h ?_); (case T => assumption); (case h => walk_at "hp"))
  | ((with_reducible refine' x_set_Files_disk ?T ?h ?_); (case T => assumption); (case h => walk_at "hp"))
  | ((with_reducible refine' i_set_Files_disk ?T ?h ?_); (case T => assumption); (case h => walk_at "hp"))
  | ((with_reducible refine' x_set_Files_state ?T ?h ?_); (case T => assumption); (case h => walk_at "hp"))
  | ((with_reducible refine' i_set_Files_state ?T ?h ?_); (case T => assumption); (case h => walk_at "hp"))
  | ((with_reducible refine' x_set_Files_kept ?T ?h ?_); (case T => assumption); (case h => walk_at "hp"))
  | ((with_reducible refine' i_set_Files_kept ?T ?h ?_); (case T => assumption); (case h => walk_at "hp"))
  | ((with_reducible refine' x_set_Files_slot ?T ?h ?_); (case T => assumption); (case h => walk_at "hp"))
  | ((with_reducible refine' i_set_Files_slot ?T ?h ?_); (case T => assumption); (case h => walk_at "hp"))
  | ((with_reducible refine' x_set_Files_turn ?T ?h ?_); (case T => assumption); (case h => walk_at "hp"))
  | ((with_reducible refine' i_set_Files_turn ?T ?h ?_); (case T => assumption); (case h => walk_at "hp"))
  | ((with_reducible refine' x_set_Files_used ?T ?h ?_); (case T => assumption); (case h => walk_at "hp"))
  | ((with_reducible refine' i_set_Files_used ?T ?h ?_); (case T => assumption); (case h => walk_at "hp"))
  | ((with_reducible refine' x_set_Files_is_new ?T ?h ?_); (case T => assumption); (case h => walk_at "hp"))
  | ((with_reducible refine' i_set_Files_is_new ?T ?h ?_); (case T => assumption); (case h => walk_at "hp")))
local macro_rules | `(tactic| walk_at "go1") => `(tactic| first
  | ((with_reducible refine w_var (v := ?vv) ?e ?_); (case e => rfl))
  | ((with_reducible walk_at "get"); (case T => assumption); (case h => walk_at "hp"))
  | (with_reducible refine x_bl ?_)
  | (with_reducible refine x_isN ?_) | (with_reducible refine x_notN ?_) | (with_reducible refine x_eqI ?_) | (with_reducible refine x_neI ?_) | (with_reducible refine x_eqS ?_) | (with_reducible refine x_neS ?_)
  | (with_reducible refine x_addI ?_) | (with_reducible refine x_subI ?_) | (with_reducible refine x_ltI ?_) | (with_reducible refine x_leI ?_) | (with_reducible refine x_gtI ?_) | (with_reducible refine x_geI ?_)
  | (with_reducible refine x_bv ?_) | (with_reducible refine x_part ?_) | (with_reducible refine x_neg ?_) | (with_reducible refine x_inS ?_)
  | (walk_at "set")
  | ((with_reducible refine' x_bmL ?h ?_); (case h => walk_at "hp")) | ((with_reducible refine' x_bmL0 ?h ?_); (case h => walk_at "hp")))
local macro_rules | `(tactic| walk_at "go") => `(tactic| ((try with_reducible (conv => whnf)); repeat ((walk_at "go1"); (try with_reducible (conv => whnf)))))
def cell (ns : List Int) (k : Int) : Int := if ns = [] then k * 7919 else (ns.getD (k % ns.length).toNat 0) + k / ns.length * 104729
def sp__law_cell (K : PySem.W.Frag) : Sp := fun vs H Q E => ∃ (a : Addr) (ns : List Int) (k : Int), vs = [.ref a, .int k] ∧ SqL K H a (ns.map V.int) ∧ ns.length ≤ 63 ∧ 0 ≤ k ∧ k < 1000000 ∧ ∀ H', Same H H' → Q (.int (cell ns k)) H'
def t__law_cell (K : PySem.W.Frag) (W : WX) : TS := uSeq (uIfS (uTest (uOp (rEqD K) (tVar 0) (uLst uNil))) (uRet (uOp rMulI (tVar 1) (uC (.int 7919)))) uNext)
    (uRet (uOp rAddI (uOp (rIxL K) (tVar 0) (uOp rModI (tVar 1) (uCB (cLenQ K) (uCons (tVar 0) uNil)))) (uOp rMulI (uOp rDivI (tVar 1) (uCB (cLenQ K) (uCons (tVar 0) uNil))) (uC (.int 104729)))))
theorem dpAll_ints {K : PySem.W.Frag} {H : Hp} : ∀ ns : List Int, DpAll K H (ns.map V.int) (ns.map PyData.int)
  | [] => .nil
  | n :: r => .cons (.int n) (dpAll_ints r)
/-- data of a depth -/
structure Shp (n : Nat) (d : PyData) : Prop where
  c : d.canLay0 = true
  d : d.depth ≤ n
theorem Shp.ok {n : Nat} {d : PyData} (h : Shp n d) (hn : n ≤ 64) : SeqAt.shaped d = true := by
  unfold SeqAt.shaped
  rw [h.c, decide_eq_true (Nat.le_trans h.d hn)]
  rfl
theorem Shp.mono {n m : Nat} {d : PyData} (h : Shp n d) (hn : n ≤ m) : Shp m d := ⟨h.c, Nat.le_trans h.d hn⟩
theorem shp_all {n : Nat} : ∀ {xs : List PyData}, (∀ x ∈ xs, Shp n x) → PyData.canLayAll0 xs = true ∧ PyData.depthAll xs ≤ n
  | [], _ => ⟨by simp [PyData.canLayAll0], by simp [PyData.depthAll]⟩
  | x :: r, h => by
    have h1 := h x List.mem_cons_self
    have h2 := shp_all (n := n) (xs := r) fun y hy => h y (List.mem_cons_of_mem _ hy)
    refine ⟨by simp [PyData.canLayAll0, h1.c, h2.1], ?_⟩
    simp only [PyData.depthAll]
    exact Nat.max_le.mpr ⟨h1.d, h2.2⟩
theorem Shp.list {n : Nat} {xs : List PyData} (h : ∀ x ∈ xs, Shp n x) : Shp (n + 1) (.list xs) := ⟨by simp only [PyData.canLay0]; exact (shp_all h).1, by simp only [PyData.depth]; exact Nat.succ_le_succ (shp_all h).2⟩
theorem Shp.tuple {n : Nat} {xs : List PyData} (h : ∀ x ∈ xs, Shp n x) : Shp (n + 1) (.tuple xs) := ⟨by simp only [PyData.canLay0]; exact (shp_all h).1, by simp only [PyData.depth]; exact Nat.succ_le_succ (shp_all h).2⟩
theorem Shp.int {n : Nat} (i : Int) : Shp n (.int i) := ⟨by simp [PyData.canLay0], by simp [PyData.depth]⟩
theorem Shp.none {n : Nat} : Shp n .none := ⟨by simp [PyData.canLay0], by simp [PyData.depth]⟩
theorem shaped_ints (ns : List Int) : SeqAt.shaped (.list (ns.map PyData.int)) = true := (Shp.list (n := 0) fun x hx => by
  obtain ⟨i, _, rfl⟩ := List.mem_map.mp hx
  exact Shp.int i).ok (by decide)
theorem pure__law_cell {K : PySem.W.Frag} {vs : List V} {H : Hp} {Q : VK} {E : XK} (h : sp__law_cell K vs H Q E) : t__law_cell K (WE1 E) (fin Q) (start ["_law_script", "_law_k"] vs) H := by
  obtain ⟨a, ns, k, rfl, hS, hl, h0, h1, q⟩ := h
  show t__law_cell K _ (fin Q) [some (.ref a), some (.int k)] H
  unfold t__law_cell
  walk_at "go"
  refine x_lst fun e H1 ne he s1 => ?_
  walk_at "go"
  refine x_eqD (.lst (s1.seq hS) (dpAll_ints ns)) (.lst (SqL.of he) .nil) (shaped_ints ns) rfl ?_
  walk_at "go"
  cases ns with
  | nil =>
    refine x_ifT rfl ?_
    walk_at "go"
    refine x_mulI (.inr ⟨by decide, by decide⟩) ?_
    exact q H1 s1
  | cons n r =>
    refine x_ifF rfl ?_
    walk_at "go"
    refine ⟨_, _, rfl, .inl (s1.seq hS), ?_⟩
    have hp : (0 : Int) < ((List.map V.int (n :: r)).length : Int) := by rw [List.length_map, List.length_cons]; omega
    have hL : ((List.map V.int (n :: r)).length : Int) = ((n :: r).length : Int) := by rw [List.length_map]
    refine x_modI hp ?_
    have hm0 := Int.emod_nonneg k (Int.ne_of_gt hp)
    have hm1 := Int.emod_lt_of_pos k hp
    have hm2 : (k % ((List.map V.int (n :: r)).length : Int)).toNat < (n :: r).length := by rw [hL] at hm1 ⊢; omega
    refine x_ixL (v := .int ((n :: r).getD (k % ((List.map V.int (n :: r)).length : Int)).toNat 0)) (s1.seq hS) (atI_of hm0 ?_) ?_
    · rw [List.getElem?_map, List.getElem?_eq_getElem hm2, List.getD_eq_getElem?_getD, List.getElem?_eq_getElem hm2]
      rfl
    walk_at "go"
    refine ⟨_, _, rfl, .inl (s1.seq hS), ?_⟩
    refine x_divI ⟨hp, by rw [hL]; omega⟩ ?_
    walk_at "go"
    refine x_mulI (.inr ⟨by decide, by decide⟩) ?_
    walk_at "go"
    have e : cell (n :: r) k = (n :: r).getD (k % ((List.map V.int (n :: r)).length : Int)).toNat 0 + k / ((List.map V.int (n :: r)).length : Int) * 104729 := by
      unfold cell
      rw [if_neg (by simp), hL]
    rw [← e]
    exact q H1 s1
def drawn (c k : Int) : Int := (((c * 6364136223846793005 + (k + 1) * 1442695040888963407) % 340282366920938463463374607431768211507) * ((c * 6364136223846793005 + (k + 1) * 1442695040888963407) % 340282366920938463463374607431768211507)) % 340282366920938463463374607431768211297
theorem drawn_nn (c k : Int) : 0 ≤ drawn c k ∧ drawn c k < 340282366920938463463374607431768211297 := ⟨Int.emod_nonneg _ (by decide), Int.emod_lt_of_pos _ (by decide)⟩
def sp__law_drawn (K : PySem.W.Frag) : Sp := fun vs H Q E => ∃ (c k : Int), vs = [.int c, .int k] ∧ Q (.int (drawn c k)) H
def t__law_drawn (K : PySem.W.Frag) (W : WX) : TS := uSeq (uAsg (uOp rModI (uOp rAddI (uOp rMulI (tVar 0) (uC (.int 6364136223846793005))) (uOp rMulI (uOp rAddI (tVar 1) (uC (.int 1))) (uC (.int 1442695040888963407)))) (uC (.int 340282366920938463463374607431768211507))) (vName 2))
    (uRet (uOp rModI (uOp rMulX (tVar 2) (tVar 2)) (uC (.int 340282366920938463463374607431768211297))))
theorem pure__law_drawn {K : PySem.W.Frag} {vs : List V} {H : Hp} {Q : VK} {E : XK} (h : sp__law_drawn K vs H Q E) : t__law_drawn K (WE1 E) (fin Q) (start ["_law_cell_here", "_law_k", "_law_more"] vs) H := by
  obtain ⟨c, k, rfl, q⟩ := h
  show t__law_drawn K _ (fin Q) [some (.int c), some (.int k), none] H
  unfold t__law_drawn
  walk_at "go"
  refine x_mulI (.inr ⟨by decide, by decide⟩) ?_
  walk_at "go"
  refine x_mulI (.inr ⟨by decide, by decide⟩) ?_
  walk_at "go"
  refine x_modI (by decide) ?_
  walk_at "go"
  have h0 := Int.emod_nonneg (c * 6364136223846793005 + (k + 1) * 1442695040888963407) (show (340282366920938463463374607431768211507 : Int) ≠ 0 by decide)
  have h1 := Int.emod_lt_of_pos (c * 6364136223846793005 + (k + 1) * 1442695040888963407) (show (0 : Int) < 340282366920938463463374607431768211507 by decide)
  have hb : ((c * 6364136223846793005 + (k + 1) * 1442695040888963407) % 340282366920938463463374607431768211507).natAbs < 2 ^ 129 := by
    have e : (2 : Nat) ^ 129 = 680564733841876926926749214863536422912 := by decide
    rw [e]
    omega
  refine x_mulX (wide_mul hb hb (by decide) (by decide) (by decide)) ?_
  refine x_modI (by decide) ?_
  exact q
/-! ### the word of a refusal -/
def ten : List Str := ["NoThing", "NoDirectory", "BadName", "IsThere", "NoRoom", "NotEmpty", "WrongKind", "TooGreat", "ReadOnly", "NoFiles"]
/-- what the ten classes say -/
structure XK10 (K : PySem.W.Frag) : Prop where
  exc : ∀ d ∈ ten, ExcC K (He.ga K d)
  kit : ∀ d ∈ ten, ∀ x ∈ ten, PySem.W.kitOne K (.ref (He.ga K d)) (.ref (He.ga K x)) = some (decide (d = x))
  kitS : ∀ d ∈ ten, PySem.W.kitOne K (.ref (He.ga K d)) (.ref (He.ga K "StillError")) = some true
  exm : ∀ d ∈ ten, ∀ x ∈ ten, PySem.W.exmOne K (.ref (He.ga K d)) (.ref (He.ga K x)) = some (decide (d = x))
  exmS : ∀ d ∈ ten, PySem.W.exmOne K (.ref (He.ga K d)) (.ref (He.ga K "StillError")) = some true
  kitV : ∀ d ∈ ten, PySem.W.kitOne K (.ref (He.ga K d)) (.type "ValueError") = some true
def sp__law_word (K : PySem.W.Frag) (p : Addr × Obj) : Sp := fun vs H Q E => ∃ d, d ∈ ten ∧ vs = [.ref p.1] ∧ Zc (.ref (He.ga K d)) none p.2 ∧ (∃ vs, p.2.data = .fields vs) ∧ ∀ H', Same H H' → Q (.str d) H'
def t__law_word (K : PySem.W.Frag) (d : Str) (p : Addr × Obj) (W : WX) : TS := uSeq (uAsg (uLst (uCons (uCB (rIsE K (He.ga K d) p.1) (uCons (tVar 0) (uCons (uC (.ref (He.ga K "NoThing"))) uNil))) (uCons (uCB (rIsE K (He.ga K d) p.1) (uCons (tVar 0) (uCons (uC (.ref (He.ga K "NoDirectory"))) uNil))) (uCons (uCB (rIsE K (He.ga K d) p.1) (uCons (tVar 0) (uCons (uC (.ref (He.ga K "BadName"))) uNil))) (uCons (uCB (rIsE K (He.ga K d) p.1) (uCons (tVar 0) (uCons (uC (.ref (He.ga K "IsThere"))) uNil))) uNil))))) (vName 1))
    (uSeq (uAsg (uOp rCat (tVar 1) (uLst (uCons (uCB (rIsE K (He.ga K d) p.1) (uCons (tVar 0) (uCons (uC (.ref (He.ga K "NoRoom"))) uNil))) (uCons (uCB (rIsE K (He.ga K d) p.1) (uCons (tVar 0) (uCons (uC (.ref (He.ga K "NotEmpty"))) uNil))) (uCons (uCB (rIsE K (He.ga K d) p.1) (uCons (tVar 0) (uCons (uC (.ref (He.ga K "WrongKind"))) uNil))) uNil))))) (vName 1))
    (uSeq (uAsg (uOp rCat (tVar 1) (uLst (uCons (uCB (rIsE K (He.ga K d) p.1) (uCons (tVar 0) (uCons (uC (.ref (He.ga K "TooGreat"))) uNil))) (uCons (uCB (rIsE K (He.ga K d) p.1) (uCons (tVar 0) (uCons (uC (.ref (He.ga K "ReadOnly"))) uNil))) (uCons (uCB (rIsE K (He.ga K d) p.1) (uCons (tVar 0) (uCons (uC (.ref (He.ga K "NoFiles"))) uNil))) uNil))))) (vName 1))
    (uSeq (uAsg (uLst (uCons (uC (.str "NoThing")) (uCons (uC (.str "NoDirectory")) (uCons (uC (.str "BadName")) (uCons (uC (.str "IsThere")) (uCons (uC (.str "NoRoom")) (uCons (uC (.str "NotEmpty")) (uCons (uC (.str "WrongKind")) (uCons (uC (.str "TooGreat")) (uCons (uC (.str "ReadOnly")) uNil)))))))))) (vName 2))
    (uSeq (uIfS (uOr (uTest (uOp rNe (uBM K "list" (rCntF K) (tVar 1) (uCons (uC (.bl true)) uNil)) (uC (.int 1)))) (uOr (uNot (uTest (uCB (rIsE K (He.ga K d) p.1) (uCons (tVar 0) (uCons (uC (.ref (He.ga K "StillError"))) uNil))))) (uNot (uTest (uCB (rIsE K (He.ga K d) p.1) (uCons (tVar 0) (uCons (uC (.ty "ValueError")) uNil))))))) (uRet (uC (.str "other"))) uNext)
    (uRet (uOp (rIxL K) (uOp rCat (tVar 2) (uLst (uCons (uC (.str "NoFiles")) uNil))) (uBM K "list" (rIndex K) (tVar 1) (uCons (uC (.bl true)) uNil))))))))
section
variable {K : PySem.W.Frag} {H : Hp} {Q : VK} {D a c : Addr} {b : Bool}
theorem x_isP (h : PySem.W.kitOne K (.ref D) (.ref c) = some b) (q : Q (.bl b) H) : rIsE K D a [.ref a, .ref c] H Q := ⟨.ref c, .ref c, b, rfl, fun _ r => r, h, q⟩
theorem x_isPT {n : String} (h : PySem.W.kitOne K (.ref D) (.type n) = some b) (q : Q (.bl b) H) : rIsE K D a [.ref a, .ty n] H Q := ⟨.ty n, .type n, b, rfl, fun _ r => r, h, q⟩
end
theorem ten_count : ∀ d ∈ ten, ((ten.map fun x => V.bl (decide (d = x))).countP fun z => eqV z (.bl true)) = 1 := by decide +kernel
theorem ten_index : ∀ d ∈ ten, ∃ j, j < 10 ∧ (ten.map fun x => V.bl (decide (d = x)))[j]? = some (.bl true) ∧ (∀ m, m < 10 → m < j → (ten.map fun x => V.bl (decide (d = x)))[m]? = some (.bl false)) ∧ (ten.map V.str)[j]? = some (.str d) := by decide +kernel
theorem pure__law_word {K : PySem.W.Frag} (X : XK10 K) {d : Str} {p : Addr × Obj} (hd : d ∈ ten) {H : Hp} {Q : VK} {E : XK} (q : ∀ H', Same H H' → Q (.str d) H') : t__law_word K d p W0 (fin Q) [some (.ref p.1), none, none] H := by
  have k := X.kit d hd
  unfold t__law_word
  walk_at "go"
  refine x_isP (k "NoThing" (by decide)) ?_
  walk_at "go"
  refine x_isP (k "NoDirectory" (by decide)) ?_
  walk_at "go"
  refine x_isP (k "BadName" (by decide)) ?_
  walk_at "go"
  refine x_isP (k "IsThere" (by decide)) ?_
  walk_at "go"
  refine x_lst fun l1 H1 n1 h1 s1 => ?_
  walk_at "go"
  refine x_isP (k "NoRoom" (by decide)) ?_
  walk_at "go"
  refine x_isP (k "NotEmpty" (by decide)) ?_
  walk_at "go"
  refine x_isP (k "WrongKind" (by decide)) ?_
  walk_at "go"
  refine x_lst fun l2 H2 n2 h2 s2 => ?_
  walk_at "go"
  refine x_cat (by walk_at "hp") h2 (by rw [sizeLine_eq]; exact Nat.le_of_ble_eq_true rfl) fun l3 H3 n3 h3 s3 => ?_
  walk_at "go"
  refine x_isP (k "TooGreat" (by decide)) ?_
  walk_at "go"
  refine x_isP (k "ReadOnly" (by decide)) ?_
  walk_at "go"
  refine x_isP (k "NoFiles" (by decide)) ?_
  walk_at "go"
  refine x_lst fun l4 H4 n4 h4 s4 => ?_
  walk_at "go"
  refine x_cat (by walk_at "hp") h4 (by rw [sizeLine_eq]; exact Nat.le_of_ble_eq_true rfl) fun l5 H5 n5 h5 s5 => ?_
  have h5 : H5 l5 = some (.lst (ten.map fun x => V.bl (decide (d = x)))) := h5
  walk_at "go"
  refine x_lst fun l6 H6 n6 h6 s6 => ?_
  walk_at "go"
  have fl : (ten.map fun x => V.bl (decide (d = x))).all flatV = true := rfl
  refine ⟨l5, _, .bl true, rfl, rfl, SqL.of (by walk_at "hp"), rfl, fl, ?_⟩
  rw [ten_count d hd]
  walk_at "go"
  refine x_ifF rfl ?_
  walk_at "go"
  refine x_isP (X.kitS d hd) ?_
  walk_at "go"
  refine x_ifF rfl ?_
  walk_at "go"
  refine x_isPT (X.kitV d hd) ?_
  walk_at "go"
  refine x_ifF rfl ?_
  walk_at "go"
  refine x_lst fun l7 H7 n7 h7 s7 => ?_
  walk_at "go"
  refine x_cat (by walk_at "hp") h7 (by rw [sizeLine_eq]; exact Nat.le_of_ble_eq_true rfl) fun l8 H8 n8 h8 s8 => ?_
  have h8 : H8 l8 = some (.lst (ten.map V.str)) := h8
  walk_at "go"
  obtain ⟨j, hj, e1, e2, e3⟩ := ten_index d hd
  refine ⟨l5, _, .bl true, j, .bl true, rfl, rfl, SqL.of (by walk_at "hp"), rfl, fl, e1, rfl, fun m z' hm hz => ?_, ?_⟩
  · rw [e2 m (by omega) hm] at hz
    cases hz
    rfl
  · refine x_ixL (SqL.of h8) (atI_of (Int.natCast_nonneg j) (by rw [Int.toNat_natCast]; exact e3)) ?_
    exact q _ (by walk_at "sm")
end SP

set_option Elab.async false
set_option linter.all false
set_option maxRecDepth 100000
set_option maxHeartbeats 4000000
/-! disk_of; the word of an exception that is caught. -/
namespace SP
open PySem PySem.Spec PyProof.Rows L2 L2H
local macro_rules | `(tactic| walk_at "hp") => `(tactic| first
  | assumption
  | exact upd_same
  | (refine' sameAt ?sA ?hA; (case sA => assumption); (case hA => walk_at "hp"))
  | (refine' Eq.trans (upd_ne ?nA) ?hA; (case nA => walk_at "ne"); (case hA => walk_at "hp")))
local macro_rules | `(tactic| walk_at "ne") => `(tactic| first
  | assumption
  | (refine' Ne.symm ?hA; assumption)
  | (refine' ne_of_none (H := _) ?hA (by assumption); walk_at "hp")
  | (refine' Ne.symm (ne_of_none (H := _) ?hA (by assumption)); walk_at "hp")
  | (refine' ne_of ?hA ?hB ?hC; (case hA => assumption); (case hB => walk_at "hp"); (case hC => (intro z; cases z))))
local macro_rules | `(tactic| walk_at "sm") => `(tactic| first
  | exact Same.refl _
  | assumption
  | (refine' sameTr ?sA ?sB; (case sA => assumption); (case sB => walk_at "sm")))
local macro_rules | `(tactic| walk_at "dm") => `(tactic| first
  | exact dmRefl
  | assumption
  | (refine' dmUpd ?dA; (case dA => walk_at "dm"))
  | (refine' dmSame ?sA ?dA; (case sA => assumption); (case dA => walk_at "dm")))
local macro_rules | `(tactic| walk_at "fr") => `(tactic| first
  | assumption
  | (refine' dmAt ?dA ?hA; (case hA => assumption); (case dA => walk_at "dm")))
local macro_rules | `(tactic| walk_at "ab") => `(tactic| (exfalso; refine absurd ?hA (noneSome ?hB); (case hB => walk_at "hp"); (case hA => assumption)))
local macro_rules | `(tactic| walk_at "kp") => `(tactic| first
  | exact Keep.refl
  | assumption
  | (refine' Keep.trans ?kA (keepUpd ?kB ?kC ?kD); (case kB => simp); (case kC => walk_at "hp"); (case kD => (intro xs z; cases z)); (case kA => walk_at "kp"))
  | (refine' keepTr ?kB ?kA; (case kB => assumption); (case kA => walk_at "kp"))
  | (refine' keepSm ?kB ?kA; (case kB => assumption); (case kA => walk_at "kp")))
local macro_rules | `(tactic| walk_at "get") => `(tactic| first
  | (refine' x_get_Files_state ?T ?h ?_) | (refine' x_get_Thing_kind ?T ?h ?_) | (refine' x_get_Thing_entries ?T ?h ?_) | (refine' x_get_Thing_held ?T ?h ?_)
  | (refine' x_get_Files_disk ?T ?h ?_) | (refine' x_get_Files_kept ?T ?h ?_) | (refine' x_get_Files_used ?T ?h ?_)
  | (refine' x_get_Disk_blocks ?T ?h ?_) | (refine' x_get_Disk_log ?T ?h ?_)
  | (refine' x_get_Reader_row ?T ?h ?_) | (refine' x_get_Reader_at ?T ?h ?_) | (refine' x_get_Reader_good ?T ?h ?_)
  | (refine' x_get_Files_slot ?T ?h ?_) | (refine' x_get_Files_turn ?T ?h ?_) | (refine' x_get_Files_is_new ?T ?h ?_))
local macro_rules | `(tactic| walk_at "set") => `(tactic| first
  | ((with_reducible refine' x_set_Disk_blocks ?T ?h ?_); (case T => assumption); (case h => walk_at "hp"))
  | ((with_reducible refine' i_set_Disk_blocks ?T ?h ?_); (case T => assumption); (case h => walk_at "hp"))
  | ((with_reducible refine' x_set_Disk_log ?T ?h ?_); (case T => assumption); (case h => walk_at "hp"))
  | ((with_reducible refine' i_set_Disk_log ?T ?h ?_); (case T => assumption); (case h => walk_at "hp"))
  | ((with_reducible refine' x_set_Thing_kind ?T ?h ?_); (case T => assumption); (case h => walk_at "hp"))
  | ((with_reducible refine' i_set_Thing_kind ?T ?h ?_); (case T => assumption); (case h => walk_at "hp"))
  | ((with_reducible refine' x_set_Thing_held ?T ?h ?_); (case T => assumption); (case h => walk_at "hp"))
  | ((with_reducible refine' i_set_Thing_held ?T ?h ?_); (case T => assumption); (case h => walk_at "hp"))
  | ((with_reducible refine' x_set_Thing_entries ?T ?h ?_); (case T => assumption); (case h => walk_at "hp"))
  | ((with_reducible refine' i_set_Thing_entries ?T ?h ?_); (case T => assumption); (case h => walk_at "hp"))
  | ((with_reducible refine' x_set_Reader_row ?T ?h ?_); (case T => assumption); (case h => walk_at "hp"))
  | ((with_reducible refine' i_set_Reader_row ?T ?h ?_); (case T => assumption); (case h => walk_at "hp"))
  | ((with_reducible refine' x_set_Reader_at ?T ?h ?_); (case T => assumption); (case h => walk_at "hp"))
  | ((with_reducible refine' i_set_Reader_at ?T ?h ?_); (case T => assumption); (case h => walk_at "hp"))
  | ((with_reducible refine' x_set_Reader_good ?T ?h ?_); (case T => assumption); (case h => walk_at "hp"))
  | ((with_reducible refine' i_set_Reader_good ?T ?h ?_); (case T => assumption); (case h => walk_at "hp"))
  | ((with_reducible refine' x_set_Files_disk ?T ?h ?_); (case T => assumption); (case h => walk_at "hp"))
  | ((with_reducible refine' i_set_Files_disk ?T ?h ?_); (case T => assumption); (case h => walk_at "hp"))
  | ((with_reducible refine' x_set_Files_state ?T ?h ?_); (case T => assumption); (case h => walk_at "hp"))
  | ((with_reducible refine' i_set_Files_state ?T ?h ?_); (case T => assumption); (case h => walk_at "hp"))
  | ((with_reducible refine' x_set_Files_kept ?T ?h ?_); (case T => assumption); (case h => walk_at "hp"))
  | ((with_reducible refine' i_set_Files_kept ?T ?h ?_); (case T => assumption); (case h => walk_at "hp"))
  | ((with_reducible refine' x_set_Files_slot ?T ?h ?_); (case T => assumption); (case h => walk_at "hp"))
  | ((with_reducible refine' i_set_Files_slot ?T ?h ?_); (case T => assumption); (case h => walk_at "hp"))
  | ((with_reducible refine' x_set_Files_turn ?T ?h ?_); (case T => assumption); (case h => walk_at "hp"))
  | ((with_reducible refine' i_set_Files_turn ?T ?h ?_); (case T => assumption); (case h => walk_at "hp"))
  | ((with_reducible refine' x_set_Files_used ?T ?h ?_); (case T => assumption); (case h => walk_at "hp"))
  | ((with_reducible refine' i_set_Files_used ?T ?h ?_); (case T => assumption); (case h => walk_at "hp"))
  | ((with_reducible refine' x_set_Files_is_new ?T ?h ?_); (case T => assumption); (case h => walk_at "hp"))
  | ((with_reducible refine' i_set_Files_is_new ?T ?h ?_); (case T => assumption); (case h => walk_at "hp")))
local macro_rules | `(tactic| walk_at "go1") => `(tactic| first
  | ((with_reducible refine w_var (v := ?vv) ?e ?_); (case e => rfl))
  | ((with_reducible walk_at "get"); (case T => assumption); (case h => walk_at "hp"))
  | (with_reducible refine x_bl ?_)
  | (with_reducible refine x_isN ?_) | (with_reducible refine x_notN ?_) | (with_reducible refine x_eqI ?_) | (with_reducible refine x_neI ?_) | (with_reducible refine x_eqS ?_) | (with_reducible refine x_neS ?_)
  | (with_reducible refine x_addI ?_) | (with_reducible refine x_subI ?_) | (with_reducible refine x_ltI ?_) | (with_reducible refine x_leI ?_) | (with_reducible refine x_gtI ?_) | (with_reducible refine x_geI ?_)
  | (with_reducible refine x_bv ?_) | (with_reducible refine x_part ?_) | (with_reducible refine x_neg ?_) | (with_reducible refine x_inS ?_)
  | (walk_at "set")
  | ((with_reducible refine' x_bmL ?h ?_); (case h => walk_at "hp")) | ((with_reducible refine' x_bmL0 ?h ?_); (case h => walk_at "hp")))
local macro_rules | `(tactic| walk_at "go") => `(tactic| ((try with_reducible (conv => whnf)); repeat ((walk_at "go1"); (try with_reducible (conv => whnf)))))
abbrev uWordS (K : PySem.W.Frag) (a : Addr) (cls : Value) (dd : Option Addr) (t : TA) : TE := fun σ H Q => t σ H fun vs H1 => ∃ d, d ∈ ten ∧ vs = [.ref a] ∧ cls = .ref (He.ga K d) ∧ dd = none ∧ ∀ H2, Same H1 H2 → Q (.str d) H2
section
variable {X : Cx} {k : Nat} {f : Addr} {fd : FuncData} {ps : List Str} {x : Str} {q pos : Pos} {e : Expr} {es : List Expr} {t : TA} {a : Addr} {oe : Obj} {cls : Value} {dd : Option Addr}
theorem pe_wordS (F : FnP X.prog X.w X.K X.mg X.base k f fd ps (sp__law_word X.K)) (hr : RoomH k X.A) (hp : (a, oe) ∈ X.pn) (hz : Zc cls dd oe) (hf : ∃ vs, oe.data = .fields vs) (hm : X.mg x = some (.ref f)) (hk : PySem.W.keepIn X.K (.ref f) = true) (hb : Binds X.K fd ps [])
    (ha : PA X (e :: es) t) (hg : Gl X x := by rfl) (hdb : (x == ("__debug__" : Str)) = false := by decide) (he : starEach (e :: es) X.env = (false, eval e X.env) :: starEach es X.env := by rfl) (hpl : (backTo pos (starEach es X.env)).any (·.1) = false := by rfl) :
    PE X (.Call (.Name x q) (e :: es) [] pos) (uWordS X.K a cls dd t) := by
  refine ⟨fun pins s σ H Q I h => ?_⟩
  refine wpAny_Call_Name_kw (ld_glob I hg hm ?_ hdb)
  refine PySem.W.callWith_K (h₀ := X.base) I.ok.mod.kin hk (thn (ha.run pos pins s σ H _ I h) fun us s1 ⟨vs, H1, I1, r, q0⟩ => ⟨I1.kIn, ?_⟩) he hpl
  obtain ⟨d, hd, ev, ec, en, q⟩ := q0
  have hsp : sp__law_word X.K (a, oe) vs H1 Q fun _ _ _ => False := ⟨d, hd, ev, by rw [← ec, ← en]; exact hz, hf, q⟩
  have hl : us.length = ps.length := by rw [← r.length]; exact F.len _ _ _ _ _ hsp
  have b := hb s1 us I1.kIn (by rw [List.append_nil]; exact hl)
  rw [List.append_nil] at b
  have P1 := I1.pin (a, oe) (List.mem_append_left _ hp)
  have hpin : PinOk X.stack H1 s1 (a, oe) := ⟨P1.1, P1.2.1, fun hm => (List.mem_cons.mp (I1.stkSub a hm)).elim P1.2.2.1 P1.2.2.2.1, P1.2.2.2.2⟩
  refine wpAny_call (codeAny_mono (F.run X.A X.stack s1 H1 ⟨us, []⟩ us vs Q _ (a, oe) hr hpin I1.env0 b r hsp) fun r s' hq => ?_)
  cases r with
  | error e => exact (passAt (W := fun _ _ _ _ => False) takes0 σ pins H1 s1 e s' I1 hq)
  | ok fl =>
    cases fl with
    | ret u => exact I1.after hq
    | next => exact False.elim hq
    | brk => exact False.elim hq
    | cont => exact False.elim hq
end
/-! ### data of disks -/
def dblk : Option (List Int) → PyData
  | none => .none
  | some b => .tuple (b.map .int)
def dB (B : List (Option (List Int))) : PyData := .list (B.map dblk)
def dent : Ent → PyData
  | .wr n b => .tuple [.str "write", .int n, .tuple (b.map .int)]
  | .bar => .tuple [.str "barrier"]
def dL (E : List Ent) : PyData := .list (E.map dent)
theorem shp_is {n : Nat} (b : List Int) : ∀ x ∈ b.map PyData.int, Shp n x := fun x hx => by
  obtain ⟨i, _, rfl⟩ := List.mem_map.mp hx
  exact Shp.int i
theorem shp_t {n : Nat} {xs : List PyData} (h : ∀ x ∈ xs, Shp n x) : Shp (n + 1) (.tuple xs) := Shp.tuple h
theorem shp_blk (b : Option (List Int)) : Shp 1 (dblk b) := by
  cases b with
  | none => exact Shp.none
  | some b => exact shp_t (n := 0) (shp_is b)
theorem Shp.str {n : Nat} {z : Str} (h : PyData.strOk z = true) : Shp n (.str z) := ⟨by simp [PyData.canLay0, h], by simp [PyData.depth]⟩
theorem shp_ent (e : Ent) : Shp 2 (dent e) := by
  cases e with
  | bar =>
    refine (shp_t (n := 0) fun x hx => ?_).mono (by decide)
    rw [List.mem_singleton.mp hx]
    exact Shp.str (by decide +kernel)
  | wr n b =>
    refine shp_t (n := 1) fun x hx => ?_
    rcases List.mem_cons.mp hx with e | hx
    · rw [e]; exact Shp.str (by decide +kernel)
    rcases List.mem_cons.mp hx with e | hx
    · rw [e]; exact Shp.int _
    rw [List.mem_singleton.mp hx]
    exact shp_blk (some b)
theorem shp_B (B : List (Option (List Int))) : Shp 2 (dB B) := Shp.list fun x hx => by
  obtain ⟨b, _, rfl⟩ := List.mem_map.mp hx
  exact shp_blk b
theorem shp_L (E : List Ent) : Shp 3 (dL E) := Shp.list fun x hx => by
  obtain ⟨b, _, rfl⟩ := List.mem_map.mp hx
  exact shp_ent b
theorem eqv_same {n : Nat} {d : PyData} (h : Shp n d) : PyData.eqv d d = true := SeqAt.eqv_refl d h.c
theorem dp_blk {K : PySem.W.Frag} {H : Hp} {v : V} {b : Option (List Int)} (h : BlkV H v b) : Dp K H v (dblk b) := by
  cases b with
  | none => rw [show v = .non from h]; exact .non
  | some b =>
    obtain ⟨p, rfl, e⟩ := h
    exact .tup (SqT.of e) (dpAll_ints b)
theorem dp_ent {K : PySem.W.Frag} {H : Hp} {v : V} {e : Ent} (h : EntV H v e) : Dp K H v (dent e) := by
  cases e with
  | bar =>
    obtain ⟨p, rfl, e⟩ := h
    exact .tup (SqT.of e) (.cons (.str _) .nil)
  | wr n b =>
    obtain ⟨p, q, rfl, e, f⟩ := h
    exact .tup (SqT.of e) (.cons (.str _) (.cons (.int _) (.cons (.tup (SqT.of f) (dpAll_ints b)) .nil)))
theorem dpAll_of {α : Type} {K : PySem.W.Frag} {H : Hp} {F : V → α → Prop} {g : α → PyData} (h : ∀ v a, F v a → Dp K H v (g a)) : ∀ {vs : List V} {as : List α}, Paired F vs as → DpAll K H vs (as.map g)
  | _, _, .nil => .nil
  | _, _, .cons a t => .cons (h _ _ a) (dpAll_of h t)
/-- a list of blocks -/
def BlksAt (H : Hp) (u : Addr) (B : List (Option (List Int))) : Prop := ∃ vs, H u = some (.lst vs) ∧ Paired (BlkV H) vs B
def EntsAt (H : Hp) (u : Addr) (E : List Ent) : Prop := ∃ vs, H u = some (.lst vs) ∧ Paired (EntV H) vs E
theorem dp_B {K : PySem.W.Frag} {H : Hp} {u : Addr} {B : List (Option (List Int))} (h : BlksAt H u B) : Dp K H (.ref u) (dB B) := by
  obtain ⟨vs, e, p⟩ := h
  exact .lst (SqL.of e) (dpAll_of (g := dblk) (fun _ _ h => dp_blk h) p)
theorem dp_L {K : PySem.W.Frag} {H : Hp} {u : Addr} {E : List Ent} (h : EntsAt H u E) : Dp K H (.ref u) (dL E) := by
  obtain ⟨vs, e, p⟩ := h
  exact .lst (SqL.of e) (dpAll_of (g := dent) (fun _ _ h => dp_ent h) p)
theorem BlksAt.keep {H H' : Hp} {u : Addr} {B : List (Option (List Int))} {ms : List Addr} (h : BlksAt H u B) (k : Keep ms H H') (n : u ∉ ms) : BlksAt H' u B := by
  obtain ⟨vs, e, p⟩ := h
  exact ⟨vs, k.k _ _ n e, L2.Paired.mapP p fun _ _ z => z.tu k.t⟩
theorem EntsAt.keep {H H' : Hp} {u : Addr} {E : List Ent} {ms : List Addr} (h : EntsAt H u E) (k : Keep ms H H') (n : u ∉ ms) : EntsAt H' u E := by
  obtain ⟨vs, e, p⟩ := h
  exact ⟨vs, k.k _ _ n e, L2.Paired.mapP p fun _ _ z => z.tu k.t⟩
theorem BlksAt.same {H H' : Hp} {u : Addr} {B : List (Option (List Int))} (h : BlksAt H u B) (s : Same H H') : BlksAt H' u B := h.keep (ms := []) (Keep.of s) (by simp)
theorem EntsAt.same {H H' : Hp} {u : Addr} {B : List Ent} (h : EntsAt H u B) (s : Same H H') : EntsAt H' u B := h.keep (ms := []) (Keep.of s) (by simp)
theorem DiskAt.bs {K : PySem.W.Frag} {H : Hp} {d bl lg : Addr} {B : List (Option (List Int))} {E : List Ent} (D : DiskAt K H d bl lg B E) : BlksAt H bl B := D.b
theorem DiskAt.ls {K : PySem.W.Frag} {H : Hp} {d bl lg : Addr} {B : List (Option (List Int))} {E : List Ent} (D : DiskAt K H d bl lg B E) : EntsAt H lg E := D.l
theorem BlksAt.ne {H : Hp} {u a : Addr} {B : List (Option (List Int))} (h : BlksAt H u B) (n : H a = none) : u ≠ a := by
  obtain ⟨vs, e, _⟩ := h
  exact ne_of_none e n
theorem EntsAt.ne {H : Hp} {u a : Addr} {B : List Ent} (h : EntsAt H u B) (n : H a = none) : u ≠ a := by
  obtain ⟨vs, e, _⟩ := h
  exact ne_of_none e n
/-- one block of a list is set -/
theorem BlksAt.set {H : Hp} {u : Addr} {B : List (Option (List Int))} {vs : List V} {v : V} {b : Option (List Int)} (e : H u = some (.lst vs)) (p : Paired (BlkV H) vs B) (r : BlkV H v b) (i : Nat) : BlksAt (upd H u (.lst (vs.set i v))) u (B.set i b) := by
  have k : Keep [u] H (upd H u (.lst (vs.set i v))) := keepUpd (by simp) e (fun xs z => by cases z)
  exact ⟨_, upd_same, paired_set (r.tu k.t) i (L2.Paired.mapP p fun _ _ z => z.tu k.t)⟩
/-! ### disk_of -/
def sp_disk_of (K : PySem.W.Frag) : Sp := fun vs H Q E => ∃ (u : Addr) (B : List (Option (List Int))), vs = [.ref u] ∧ BlksAt H u B ∧ 16 ≤ B.length ∧ B.length ≤ 256 ∧
  ∀ d bl lg H', H d = none → H bl = none → H lg = none → Same H H' → DiskAt K H' d bl lg B [] → Q (.ref d) H'
def t_disk_of (K : PySem.W.Frag) (W : WX) : TS := uSeq (uAsg (uMakeW (He.ga K "Disk") (sp_Disk___init__ K) W (uCons (uCB (cLenQ K) (uCons (tVar 0) uNil)) uNil)) (vName 1))
    (uSeq (uFor (jRng1 (uCons (uCB (cLenQ K) (uCons (tVar 0) uNil)) uNil)) (vName 2) (uAsg (uOp (rIxL K) (tVar 0) (tVar 2)) (vSub (uFld K (tVar 1) "blocks") (tVar 2) rSetL)))
    (uRet (tVar 1)))
theorem take_rep {α : Type} {B : List α} {x : α} {i : Nat} {b : α} (h : B[i]? = some b) : (B.take i ++ List.replicate (B.length - i) x).set i b = B.take (i + 1) ++ List.replicate (B.length - (i + 1)) x := by
  have hi := (List.getElem?_eq_some_iff.mp h).1
  have e : B.length - i = B.length - (i + 1) + 1 := by omega
  rw [e, List.replicate_succ, List.set_append_right _ _ (by rw [List.length_take]; omega), List.length_take, Nat.min_eq_left (Nat.le_of_lt hi), Nat.sub_self, List.set_cons_zero, List.take_add_one, h]
  simp
theorem pure_disk_of {K : PySem.W.Frag} (T : PxDisk K) {vs : List V} {H : Hp} {Q : VK} {E : XK} (h : sp_disk_of K vs H Q E) : t_disk_of K (WE1 E) (fin Q) (start ["blocks", "disk", "number"] vs) H := by
  obtain ⟨u, B, rfl, ⟨vs, hu, pu⟩, h1, h2, k⟩ := h
  have lv : vs.length = B.length := Paired.len pu
  show t_disk_of K _ (fin Q) [some (.ref u), none, none] H
  unfold t_disk_of
  walk_at "go"
  refine x_lenL hu ?_
  walk_at "go"
  refine x_make fun d dx H1 nd hd s1 => ?_
  refine ⟨d, dx, _, rfl, hd, ?_⟩
  rw [if_pos (by omega)]
  intro bl lg H2 nb nl k1 D2
  refine ⟨rfl, ?_⟩
  have s2 : Same H H2 := keepNew (fun a ha => by rw [List.mem_singleton.mp ha]; exact nd) s1 k1
  have nb0 := s1.free nb
  have nl0 := s1.free nl
  walk_at "go"
  refine x_lenL (s2 _ _ hu) ?_
  walk_at "go"
  refine x_rng1 (by omega) (by omega) ?_
  refine x_forR (fun i σ H' => (∃ o, σ = [some (.ref u), some (.ref d), o]) ∧ Same H H' ∧ DiskAt K H' d bl lg (B.take i ++ List.replicate (B.length - i) (some (List.replicate 64 0))) []) ⟨⟨_, rfl⟩, s2, ?_⟩ (fun i σ H' hi h => ?_) (fun σ H' h => ?_)
  · have e : (List.replicate (Int.toNat (vs.length : Int)) (some (List.replicate 64 (0 : Int)))) = B.take 0 ++ List.replicate (B.length - 0) (some (List.replicate 64 0)) := by
      rw [Int.toNat_natCast, lv]; rfl
    rw [← e]
    exact D2
  · obtain ⟨⟨o, rfl⟩, s, ⟨⟨ex, ho⟩, ⟨ws, hb, pb⟩, hl, ne⟩⟩ := h
    have hi2 : i < B.length := by rw [← lv]; omega
    have ei : ((0 : Int) + (i : Int)).toNat = i := by omega
    obtain ⟨v, hv, bv⟩ := paired_at (i := i) pu (List.getElem?_eq_getElem hi2)
    walk_at "go"
    refine x_ixL (SqL.of (s _ _ hu)) (atI_of (by omega) (by rw [ei]; exact hv)) ?_
    walk_at "go"
    have lw : ws.length = B.length := by
      rw [Paired.len pb, List.length_append, List.length_take, List.length_replicate]
      omega
    refine x_setL hb (ixN_nat (by omega) (by rw [ei, lw]; exact hi2)) ?_
    rw [ei]
    have kk : Keep [bl] H' (upd H' bl (.lst (ws.set i v))) := keepUpd (by simp) hb (fun xs z => by cases z)
    refine ⟨⟨_, rfl⟩, updNew nb0 s, ⟨ex, ?_⟩, ?_, EntsAt.keep hl kk (by simp [Ne.symm ne]), ne⟩
    · rw [upd_ne (ne_of ho hb (by intro z; cases z))]
      exact ho
    · have := BlksAt.set hb pb (bv.tu (fun a xs e => s a _ e)) i
      rw [take_rep (List.getElem?_eq_getElem hi2)] at this
      exact this
  · obtain ⟨⟨o, rfl⟩, s, D⟩ := h
    walk_at "go"
    refine k d bl lg H' nd nb0 nl0 s ?_
    have e : B.take (Int.toNat (vs.length : Int)) ++ List.replicate (B.length - (Int.toNat (vs.length : Int))) (some (List.replicate 64 0)) = B := by
      rw [Int.toNat_natCast, lv, Nat.sub_self, List.take_length]
      simp
    rw [e] at D
    exact D
end SP

set_option Elab.async false
set_option linter.all false
set_option maxRecDepth 100000
set_option maxHeartbeats 0
/-! A head in parts: the facts of the top are asked in chunks, each by a run of its own. -/
namespace HQ
open PySem PySem.W PySem.Calls PyProof.Rows HandSHeadRun
structure Chk where
  fa : List He.Fa
  fn : List He.DefD
  tf : List He.Defn
  ex : PySem.W.Frag → Bool
def Chk.obs (c : Chk) (g : Addr → Option Obj) : He.AlX := He.obsX 5 c.fa c.fn [] c.tf c.ex g
def Chk.val (c : Chk) (w : World) : He.AlX := He.valX c.fn [] w
def Chk.says (c : Chk) (w : World) (h : Heap) (K : PySem.W.Frag) : Prop := He.SaysX c.fa c.fn [] c.tf c.ex w h K
def hookQ (cs : List Chk) : PySem.W.Hook where
  α := List He.AlX
  obs := fun s => cs.map fun c => c.obs s.heap.get?
  val := fun w => cs.map fun c => c.val w
  says := fun w h => ∃ K : PySem.W.Frag, K.In h ∧ ∀ c ∈ cs, c.says w h K
  of := fun w s e => ⟨_, He.frT_in, fun c hc => He.saysX_of (List.map_inj_left.mp e c hc)⟩
  keeps := fun _ _ _ ⟨K, hK, z⟩ k => ⟨K, PySem.W.Frag.In.keeps hK k, fun c hc => ⟨(z c hc).t, (z c hc).more, (z c hc).hd, (z c hc).out, fun p hp => k _ _ ((z c hc).empty p hp)⟩⟩
def obQ (cs : List Chk) (s : PySem.W.SharedT) : List He.AlX := cs.map fun c => c.obs (HandSHeadRun.getT s)
theorem obQ_eq (cs : List Chk) (s : PySem.W.SharedT) : obQ cs s = (hookQ cs).obs s.abs := by
  have e : HandSHeadRun.getT s = s.abs.heap.get? := funext (HandSHeadRun.getT_eq s)
  show (cs.map fun c => c.obs (HandSHeadRun.getT s)) = cs.map fun c => c.obs s.abs.heap.get?
  rw [e]
noncomputable abbrev End (R : PySem.W.OpenRow) (M : Nat) (w : World) (os : OsState) : Option PySem.W.SharedT := endF (stepQ (denQ tabQ) R.prog w) M R.prog w os
abbrev RunL (R : PySem.W.OpenRow) (M : Nat) : Prop := ∀ (w : World) (os : OsState), (End R M w os).map (fun s => looksF R.prog (boot_heap w.params) s.abs) = some true
abbrev RunS (R : PySem.W.OpenRow) (M : Nat) (q : Program) (names : List PySem.Str) : Prop := ∀ (w : World) (os : OsState), (End R M w os).map (fun s => seenQ q names (importedModules R.prog.main.body) (fun s => xlAt q [] s && recOk R.toRowW.records s) s.abs) = some (openGood q names)
abbrev RunC (R : PySem.W.OpenRow) (M : Nat) (c : Chk) : Prop := ∀ (w : World) (os : OsState), (End R M w os).map (fun s => c.obs (getT s)) = some (c.val w)
theorem join {R : PySem.W.OpenRow} {M : Nat} {q : Program} {names : List PySem.Str} {cs : List Chk} (a : RunL R M) (b : RunS R M q names) (c : ∀ x ∈ cs, RunC R M x) (w : World) : HandSHeadRun.RunEq R q (hookQ cs) (obQ cs) M names w := by
  intro os
  have ha := a w os
  have hb := b w os
  have hc := fun x hx => c x hx w os
  show (End R M w os).map _ = _
  cases e : End R M w os with
  | none =>
    rw [e] at ha
    cases ha
  | some s =>
    rw [e] at ha hb
    have h1 := Option.some.inj ha
    have h2 := Option.some.inj hb
    have h3 : obQ cs s = (hookQ cs).val w := List.map_inj_left.mpr fun x hx => by
      have z := hc x hx
      rw [e] at z
      exact Option.some.inj z
    exact congrArg some (Prod.ext h1 (Prod.ext h2 h3))
end HQ
namespace SP
open PySem PySem.Spec PyProof.Rows L2 L2H
/-! ### the ten classes -/
def ten11 : List Str := "StillError" :: ten
def isSm (o : Option Bool) : Bool := match o with
  | some true => true
  | _ => false
theorem isSm_ok {o : Option Bool} (h : isSm o = true) : o = some true := by
  match o, h with
  | some true, _ => rfl
def excB (K : PySem.W.Frag) (D : Addr) : Bool :=
  decide (PySem.W.findIn K (.ref D) "__getattribute__" = some (some (.builtin "BaseException.__getattribute__"))) && (decide (PySem.W.findIn K (.ref D) "__getattr__" = some none) && (isSm (PySem.W.subIn K (.ref D) (.type "BaseException")) && (PySem.W.hasDictIn K D && (decide (PySem.W.findIn K (.ref D) "__class__" = some (some (.builtin "object.__class__"))) &&
  (decide (PySem.W.specialIn K (.builtin "object.__class__") "__get__" = some (some (.builtin "getset_descriptor.__get__"))) && (isSm (PySem.W.takesIn K (.builtin "object.__class__")) && isSm (PySem.W.mroIn K D (.type "object"))))))))
theorem excB_ok {K : PySem.W.Frag} {D : Addr} (h : excB K D = true) : ExcC K D := by
  unfold excB at h
  simp only [Bool.and_eq_true, decide_eq_true_eq] at h
  obtain ⟨h1, h2, h3, h4, h5, h6, h7, h8⟩ := h
  exact ⟨h1, h2, isSm_ok h3, h4, h5, h6, isSm_ok h7, isSm_ok h8⟩
def xk1 (K : PySem.W.Frag) (d : Str) : Bool := excB K (He.ga K d) && (isSm (PySem.W.kitOne K (.ref (He.ga K d)) (.ref (He.ga K "StillError"))) && (isSm (PySem.W.exmOne K (.ref (He.ga K d)) (.ref (He.ga K "StillError"))) && isSm (PySem.W.kitOne K (.ref (He.ga K d)) (.type "ValueError"))))
def xk2 (K : PySem.W.Frag) (d x : Str) : Bool := decide (PySem.W.kitOne K (.ref (He.ga K d)) (.ref (He.ga K x)) = some (decide (d = x))) && decide (PySem.W.exmOne K (.ref (He.ga K d)) (.ref (He.ga K x)) = some (decide (d = x)))
def xk (K : PySem.W.Frag) : Bool := (ten.all fun d => xk1 K d) && ten.all fun d => ten.all fun x => xk2 K d x
theorem xk_ok {K : PySem.W.Frag} (h : xk K = true) : XK10 K := by
  unfold xk at h
  obtain ⟨h1, h2⟩ := Bool.and_eq_true_iff.mp h
  have k1 := fun d hd => List.all_eq_true.mp h1 d hd
  have k2 := fun d hd x hx => List.all_eq_true.mp (List.all_eq_true.mp h2 d hd) x hx
  unfold xk1 at k1
  unfold xk2 at k2
  simp only [Bool.and_eq_true, decide_eq_true_eq] at k1 k2
  exact ⟨fun d hd => excB_ok (k1 d hd).1, fun d hd x hx => (k2 d hd x hx).1, fun d hd => isSm_ok (k1 d hd).2.1, fun d hd x hx => (k2 d hd x hx).2, fun d hd => isSm_ok (k1 d hd).2.2.1, fun d hd => isSm_ok (k1 d hd).2.2.2⟩
theorem excx {K : PySem.W.Frag} {h : Heap} {mg : Str → Option Value} {x : Str} (X : K.In h) (G : h.Ns mainGlobals mg) (g : He.Fa.ok K (.glo x) = true) (e : He.Fa.ok K (.exc x) = true) : ExcX K mg x := by
  have e2 : (PySem.W.excIn K (He.ga K x) He.veBase "ValueError.__new__" && (PySem.W.keepIn K (.ref (He.ga K x)) && (decide (PySem.W.subIn K (.ref (He.ga K x)) (.type "BaseException") = some true) && decide (PySem.W.typeIn K (.ref (He.ga K x)) = some (.type "type"))))) = true := e
  simp only [Bool.and_eq_true, decide_eq_true_eq] at e2
  obtain ⟨h1, h2, h3, h4⟩ := e2
  exact ⟨He.glo_ok X G g, h1, h2, h3, h4⟩
end SP

set_option Elab.async false
set_option linter.all false
set_option maxRecDepth 100000
set_option maxHeartbeats 4000000
/-! The law of disks. -/
namespace SP
open PySem PySem.Spec PyProof.Rows L2 L2H
local macro_rules | `(tactic| walk_at "hp") => `(tactic| first
  | assumption
  | exact upd_same
  | (refine' sameAt ?sA ?hA; (case sA => assumption); (case hA => walk_at "hp"))
  | (refine' Eq.trans (upd_ne ?nA) ?hA; (case nA => walk_at "ne"); (case hA => walk_at "hp")))
local macro_rules | `(tactic| walk_at "ne") => `(tactic| first
  | assumption
  | (refine' Ne.symm ?hA; assumption)
  | (refine' ne_of_none (H := _) ?hA (by assumption); walk_at "hp")
  | (refine' Ne.symm (ne_of_none (H := _) ?hA (by assumption)); walk_at "hp")
  | (refine' ne_of ?hA ?hB ?hC; (case hA => assumption); (case hB => walk_at "hp"); (case hC => (intro z; cases z))))
local macro_rules | `(tactic| walk_at "sm") => `(tactic| first
  | exact Same.refl _
  | assumption
  | (refine' sameTr ?sA ?sB; (case sA => assumption); (case sB => walk_at "sm")))
local macro_rules | `(tactic| walk_at "dm") => `(tactic| first
  | exact dmRefl
  | assumption
  | (refine' dmUpd ?dA; (case dA => walk_at "dm"))
  | (refine' dmSame ?sA ?dA; (case sA => assumption); (case dA => walk_at "dm")))
local macro_rules | `(tactic| walk_at "fr") => `(tactic| first
  | assumption
  | (refine' dmAt ?dA ?hA; (case hA => assumption); (case dA => walk_at "dm")))
local macro_rules | `(tactic| walk_at "ab") => `(tactic| (exfalso; refine absurd ?hA (noneSome ?hB); (case hB => walk_at "hp"); (case hA => assumption)))
local macro_rules | `(tactic| walk_at "kp") => `(tactic| first
  | exact Keep.refl
  | assumption
  | (refine' Keep.trans ?kA (keepUpd ?kB ?kC ?kD); (case kB => simp); (case kC => walk_at "hp"); (case kD => (intro xs z; cases z)); (case kA => walk_at "kp"))
  | (refine' keepTr ?kB ?kA; (case kB => assumption); (case kA => walk_at "kp"))
  | (refine' keepSm ?kB ?kA; (case kB => assumption); (case kA => walk_at "kp")))
local macro_rules | `(tactic| walk_at "get") => `(tactic| first
  | (refine' x_get_Files_state ?T ?h ?_) | (refine' x_get_Thing_kind ?T ?h ?_) | (refine' x_get_Thing_entries ?T ?h ?_) | (refine' x_get_Thing_held ?T ?h ?_)
  | (refine' x_get_Files_disk ?T ?h ?_) | (refine' x_get_Files_kept ?T ?h ?_) | (refine' x_get_Files_used ?T ?h ?_)
  | (refine' x_get_Disk_blocks ?T ?h ?_) | (refine' x_get_Disk_log ?T ?h ?_)
  | (refine' x_get_Reader_row ?T ?h ?_) | (refine' x_get_Reader_at ?T ?h ?_) | (refine' x_get_Reader_good ?T ?h ?_)
  | (refine' x_get_Files_slot ?T ?h ?_) | (refine' x_get_Files_turn ?T ?h ?_) | (refine' x_get_Files_is_new ?T ?h ?_))
local macro_rules | `(tactic| walk_at "set") => `(tactic| first
  | ((with_reducible refine' x_set_Disk_blocks ?T ?h ?_); (case T => assumption); (case h => walk_at "hp"))
  | ((with_reducible refine' i_set_Disk_blocks ?T ?h ?_); (case T => assumption); (case h => walk_at "hp"))
  | ((with_reducible refine' x_set_Disk_log ?T ?h ?_); (case T => assumption); (case h => walk_at "hp"))
  | ((with_reducible refine' i_set_Disk_log ?T ?h ?_); (case T => assumption); (case h => walk_at "hp"))
  | ((with_reducible refine' x_set_Thing_kind ?T ?h ?_); (case T => assumption); (case h => walk_at "hp"))
  | ((with_reducible refine' i_set_Thing_kind ?T ?h ?_); (case T => assumption); (case h => walk_at "hp"))
  | ((with_reducible refine' x_set_Thing_held ?T ?h ?_); (case T => assumption); (case h => walk_at "hp"))
  | ((with_reducible refine' i_set_Thing_held ?T ?h ?_); (case T => assumption); (case h => walk_at "hp"))
  | ((with_reducible refine' x_set_Thing_entries ?T ?h ?_); (case T => assumption); (case h => walk_at "hp"))
  | ((with_reducible refine' i_set_Thing_entries ?T ?h ?_); (case T => assumption); (case h => walk_at "hp"))
  | ((with_reducible refine' x_set_Reader_row ?T ?h ?_); (case T => assumption); (case h => walk_at "hp"))
  | ((with_reducible refine' i_set_Reader_row ?T ?h ?_); (case T => assumption); (case h => walk_at "hp"))
  | ((with_reducible refine' x_set_Reader_at ?T ?h ?_); (case T => assumption); (case h => walk_at "hp"))
  | ((with_reducible refine' i_set_Reader_at ?T ?h ?_); (case T => assumption); (case h => walk_at "hp"))
  | ((with_reducible refine' x_set_Reader_good ?T ?h ?_); (case T => assumption); (case h => walk_at "hp"))
  | ((with_reducible refine' i_set_Reader_good ?T ?h ?_); (case T => assumption); (case h => walk_at "hp"))
  | ((with_reducible refine' x_set_Files_disk ?T ?h ?_); (case T => assumption); (case h => walk_at "hp"))
  | ((with_reducible refine' i_set_Files_disk ?T ?h ?_); (case T => assumption); (case h => walk_at "hp"))
  | ((with_reducible refine' x_set_Files_state ?T ?h ?_); (case T => assumption); (case h => walk_at "hp"))
  | ((with_reducible refine' i_set_Files_state ?T ?h ?_); (case T => assumption); (case h => walk_at "hp"))
  | ((with_reducible refine' x_set_Files_kept ?T ?h ?_); (case T => assumption); (case h => walk_at "hp"))
  | ((with_reducible refine' i_set_Files_kept ?T ?h ?_); (case T => assumption); (case h => walk_at "hp"))
  | ((with_reducible refine' x_set_Files_slot ?T ?h ?_); (case T => assumption); (case h => walk_at "hp"))
  | ((with_reducible refine' i_set_Files_slot ?T ?h ?_); (case T => assumption); (case h => walk_at "hp"))
  | ((with_reducible refine' x_set_Files_turn ?T ?h ?_); (case T => assumption); (case h => walk_at "hp"))
  | ((with_reducible refine' i_set_Files_turn ?T ?h ?_); (case T => assumption); (case h => walk_at "hp"))
  | ((with_reducible refine' x_set_Files_used ?T ?h ?_); (case T => assumption); (case h => walk_at "hp"))
  | ((with_reducible refine' i_set_Files_used ?T ?h ?_); (case T => assumption); (case h => walk_at "hp"))
  | ((with_reducible refine' x_set_Files_is_new ?T ?h ?_); (case T => assumption); (case h => walk_at "hp"))
  | ((with_reducible refine' i_set_Files_is_new ?T ?h ?_); (case T => assumption); (case h => walk_at "hp")))
local macro_rules | `(tactic| walk_at "go1") => `(tactic| first
  | ((with_reducible refine w_var (v := ?vv) ?e ?_); (case e => rfl))
  | ((with_reducible walk_at "get"); (case T => assumption); (case h => walk_at "hp"))
  | (with_reducible refine x_bl ?_)
  | (with_reducible refine x_isN ?_) | (with_reducible refine x_notN ?_) | (with_reducible refine x_eqI ?_) | (with_reducible refine x_neI ?_) | (with_reducible refine x_eqS ?_) | (with_reducible refine x_neS ?_)
  | (with_reducible refine x_addI ?_) | (with_reducible refine x_subI ?_) | (with_reducible refine x_ltI ?_) | (with_reducible refine x_leI ?_) | (with_reducible refine x_gtI ?_) | (with_reducible refine x_geI ?_)
  | (with_reducible refine x_bv ?_) | (with_reducible refine x_part ?_) | (with_reducible refine x_neg ?_) | (with_reducible refine x_inS ?_)
  | (walk_at "set")
  | ((with_reducible refine' x_bmL ?h ?_); (case h => walk_at "hp")) | ((with_reducible refine' x_bmL0 ?h ?_); (case h => walk_at "hp")))
local macro_rules | `(tactic| walk_at "go") => `(tactic| ((try with_reducible (conv => whnf)); repeat ((walk_at "go1"); (try with_reducible (conv => whnf)))))
def dMade (c : Int) : PyData := if 16 ≤ c ∧ c ≤ 256 then .int c else .str "TooGreat"
def vMade (c : Int) : V := if 16 ≤ c ∧ c ≤ 256 then .int c else .str "TooGreat"
def sp__law_made (K : PySem.W.Frag) : Sp := fun vs H Q E => ∃ (c : Int), vs = [.int c] ∧ ∀ H', Same H H' → Q (vMade c) H'
def t__law_made (K : PySem.W.Frag) (E : XK) (W : WX) : TS := uTryAs K (.ref (He.ga K "TooGreat")) 1 (fun W1 => uRet (uCB (cLenQ K) (uCons (uFld K (uMakeW (He.ga K "Disk") (sp_Disk___init__ K) W1 (uCons (tVar 0) uNil)) "blocks") uNil))) (fun a cls d => uRet (uWordS K a cls d (uCons (tVar 1) uNil))) W
theorem pure__law_made {K : PySem.W.Frag} (X : XK10 K) (T : PxDisk K) {vs : List V} {H : Hp} {Q : VK} {E : XK} (h : sp__law_made K vs H Q E) : t__law_made K E (WE1 E) (fin Q) (start ["_law_count", "_law_e"] vs) H := by
  obtain ⟨c, rfl, q⟩ := h
  show t__law_made K E _ (fin Q) [some (.int c), none] H
  unfold t__law_made
  walk_at "go"
  refine x_make fun d dx H1 nd hd s1 => ?_
  refine ⟨d, dx, _, rfl, hd, ?_⟩
  unfold vMade at q
  by_cases e : 16 ≤ c ∧ c ≤ 256
  · rw [if_pos e]
    rw [if_pos e] at q
    intro bl lg H2 nb nl k1 D2
    refine ⟨rfl, ?_⟩
    have s2 : Same H H2 := keepNew (fun a ha => by rw [List.mem_singleton.mp ha]; exact nd) s1 k1
    obtain ⟨⟨ex, ho⟩, ⟨ws, hb, pb⟩, hl, ne⟩ := D2
    walk_at "go"
    refine x_lenL hb ?_
    walk_at "go"
    have : (ws.length : Int) = c := by
      rw [Paired.len pb, List.length_replicate]
      omega
    rw [this]
    exact q _ s2
  · rw [if_neg e]
    rw [if_neg e] at q
    intro H2 s2
    show wAs K _ _ _ _ _ _ _ _ _
    refine x_wAsT (X.exm "TooGreat" (by decide) "TooGreat" (by decide)) fun a na => ?_
    walk_at "go"
    refine ⟨"TooGreat", by decide, rfl, rfl, rfl, fun H3 s3 => ?_⟩
    walk_at "go"
    exact q _ ((s1.trans s2).trans s3)

def sp_law (K : PySem.W.Frag) : Sp := fun vs H Q E => ∃ (a : Addr) (ns : List Int), vs = [.ref a] ∧ SqL K H a (ns.map V.int) ∧ ns.length ≤ 63 ∧ ∀ H', Q (.bl true) H'
def t_law (K : PySem.W.Frag) (W : WX) : TS := uSeq (uFor (jList K (uLst (uCons (uC (.int 15)) (uCons (uC (.int 16)) (uCons (uC (.int 256)) (uCons (uC (.int 257)) (uCons (uC (.int 0)) (uCons (uOp rModI (uCallW (sp__law_cell K) W (uCons (tVar 0) (uCons (uC (.int 0)) uNil))) (uOp rShl (uC (.int 1)) (uC (.int 40)))) (uCons (uOp rAddI (uC (.int 16)) (uOp rModI (uCallW (sp__law_cell K) W (uCons (tVar 0) (uCons (uC (.int 1)) uNil))) (uC (.int 241)))) uNil))))))))) (vName 1) (uIfS (uTest (uOp (rNeD K) (uCallW (sp__law_made K) W (uCons (tVar 1) uNil)) (uOp (rIxL K) (uLst (uCons (tVar 1) (uCons (uC (.str "TooGreat")) uNil))) (uCB cInt (uCons (uOrV (uOp rLtI (tVar 1) (uC (.int 16))) (uOp rGtI (tVar 1) (uC (.int 256)))) uNil))))) (uRet (uC (.bl false))) uNext))
    (uSeq (uAsg (uOp rAddI (uC (.int 16)) (uOp rModI (uCallW (sp__law_cell K) W (uCons (tVar 0) (uCons (uC (.int 0)) uNil))) (uC (.int 241)))) (vName 1))
    (uSeq (uAsg (uMakeW (He.ga K "Disk") (sp_Disk___init__ K) W (uCons (tVar 1) uNil)) (vName 2))
    (uSeq (uAsg (uOp rRep (uLst (uCons (uCB (cTuple K) (uCons (uOp rRep (uLst (uCons (uC (.int 0)) uNil)) (uC (.int 64))) uNil)) uNil)) (tVar 1)) (vName 3))
    (uSeq (uAsg (uLst uNil) (vName 4))
    (uSeq (uIfS (uOr (uTest (uOp (rNeD K) (uFld K (tVar 2) "blocks") (tVar 3))) (uTest (uOp (rNeD K) (uFld K (tVar 2) "log") (uLst uNil)))) (uRet (uC (.bl false))) uNext)
    (uSeq (uFor (jRng1 (uCons (uCB cMax2 (uCons (uC (.int 1)) (uCons (uCB cMin2 (uCons (uC (.int 30)) (uCons (uCB (cLenQ K) (uCons (tVar 0) uNil)) uNil))) uNil))) uNil)) (vName 5) (uSeq (uAsg (uCallW (sp__law_drawn K) W (uCons (uCallW (sp__law_cell K) W (uCons (tVar 0) (uCons (tVar 5) uNil))) (uCons (tVar 5) uNil))) (vName 8))
    (uSeq (uIfS (uTest (uOp rEq (uOp rModI (tVar 8) (uC (.int 4))) (uC (.int 0)))) (uSeq (uDrop (uMethW (He.ga K "Disk") "barrier" (sp_Disk_barrier K) W (tVar 2) uNil))
    (uSeq (uDrop (uBM K "list" rAppend (tVar 4) (uCons (uTup (uCons (uC (.str "barrier")) uNil)) uNil)))
    uCont)) uNext)
    (uSeq (uAsg (uOp rModI (uOp rDivI (tVar 8) (uC (.int 4))) (tVar 1)) (vName 9))
    (uSeq (uAsg (uCB (cTuple K) (uCons (uLc (jRng1 (uCons (uC (.int 64)) uNil)) (vName 11) tYes (uOp rModI (uOp rAddI (uOp rDivI (tVar 8) (uOp rAddI (tVar 11) (uC (.int 1)))) (uCallW (sp__law_cell K) W0 (uCons (tVar 0) (uCons (tVar 5) uNil)))) (uC (.int 256))) [11]) uNil)) (vName 10))
    (uSeq (uDrop (uMethW (He.ga K "Disk") "write" (sp_Disk_write K) W (tVar 2) (uCons (tVar 9) (uCons (tVar 10) uNil))))
    (uSeq (uAsg (tVar 10) (vSub (tVar 3) (tVar 9) rSetL))
    (uSeq (uDrop (uBM K "list" rAppend (tVar 4) (uCons (uTup (uCons (uC (.str "write")) (uCons (tVar 9) (uCons (tVar 10) uNil)))) uNil)))
    (uIfS (uTest (uOp (rNeD K) (uMethW (He.ga K "Disk") "read" (sp_Disk_read K) W (tVar 2) (uCons (tVar 9) uNil)) (tVar 10))) (uRet (uC (.bl false))) uNext)))))))))
    (uSeq (uIfS (uOr (uTest (uOp (rNeD K) (uFld K (tVar 2) "log") (tVar 4))) (uOr (uTest (uOp (rNeD K) (uFld K (tVar 2) "blocks") (tVar 3))) (uTest (uOp (rNeD K) (uLc (jRng1 (uCons (tVar 1) uNil)) (vName 5) tYes (uMethW (He.ga K "Disk") "read" (sp_Disk_read K) W0 (tVar 2) (uCons (tVar 5) uNil)) [5]) (tVar 3))))) (uRet (uC (.bl false))) uNext)
    (uSeq (uAsg (uC .non) (vSub (tVar 3) (uOp rModI (uCallW (sp__law_cell K) W (uCons (tVar 0) (uCons (uC (.int 2)) uNil))) (tVar 1)) rSetL))
    (uSeq (uAsg (uCB (cList K) (uCons (tVar 3) uNil)) (vName 6))
    (uSeq (uAsg (uCallW (sp_disk_of K) W (uCons (tVar 3) uNil)) (vName 7))
    (uSeq (uIfS (uOr (uTest (uOp (rNeD K) (uFld K (tVar 7) "blocks") (tVar 3))) (uOr (uTest (uOp (rNeD K) (uFld K (tVar 7) "log") (uLst uNil))) (uTest (uOp rNotN (uMethW (He.ga K "Disk") "read" (sp_Disk_read K) W (tVar 7) (uCons (uOp rModI (uCallW (sp__law_cell K) W (uCons (tVar 0) (uCons (uC (.int 2)) uNil))) (tVar 1)) uNil)) (uC .non))))) (uRet (uC (.bl false))) uNext)
    (uSeq (uDrop (uMethW (He.ga K "Disk") "write" (sp_Disk_write K) W (tVar 7) (uCons (uC (.int 0)) (uCons (uCB (cTuple K) (uCons (uOp rRep (uLst (uCons (uC (.int 7)) uNil)) (uC (.int 64))) uNil)) uNil))))
    (uSeq (uAsg (uC .non) (vSub (tVar 3) (uC (.int 1)) rSetL))
    (uRet (uAndV (uOp (rEqD K) (uOp (rIxL K) (tVar 6) (uC (.int 0))) (uOp (rIxL K) (tVar 3) (uC (.int 0)))) (uAndV (uOp (rEqD K) (uMethW (He.ga K "Disk") "read" (sp_Disk_read K) W (tVar 7) (uCons (uC (.int 1)) uNil)) (uOp (rIxL K) (tVar 6) (uC (.int 1)))) (uOp rEq (uCB (cLenQ K) (uCons (uFld K (tVar 7) "log") uNil)) (uC (.int 1)))))))))))))))))))
theorem sq_same {K : PySem.W.Frag} {H H' : Hp} {a : Addr} {xs : List V} (s : Same H H') (h : SqL K H a xs) : SqL K H' a xs := (Same.le s).sql h
theorem DiskAt.keep1 {K : PySem.W.Frag} {H H' : Hp} {d bl lg u : Addr} {B : List (Option (List Int))} {E : List Ent} {o0 : List V} (D : DiskAt K H d bl lg B E) (hu : H u = some (.lst o0)) (k : Keep [u] H H') (h2 : bl ≠ u) (h3 : lg ≠ u) : DiskAt K H' d bl lg B E :=
  D.keep k (by
    rw [List.mem_singleton]
    obtain ⟨dx, ho⟩ := D.o
    exact ne_of ho hu (by intro z; cases z)) (by rw [List.mem_singleton]; exact h2) (by rw [List.mem_singleton]; exact h3)
def BlkR (B : List (Option (List Int))) (i : Nat) (y : V) (h : Hp) : Prop := ∃ b, B[i]? = some b ∧ BlkV h y b
theorem blkR_mono {B : List (Option (List Int))} : ∀ i v H H', Le H H' → BlkR B i v H → BlkR B i v H' := fun _ _ _ _ e h => by
  obtain ⟨b, h1, h2⟩ := h
  exact ⟨b, h1, h2.le e⟩
theorem paired_of {α β : Type} {F : α → β → Prop} : ∀ {l1 : List α} {l2 : List β}, l1.length = l2.length → (∀ (i : Nat) (a : α), l1[i]? = some a → ∃ b, l2[i]? = some b ∧ F a b) → Paired F l1 l2
  | [], [], _, _ => .nil
  | x :: r, y :: t, hl, h => by
    obtain ⟨b, e, f⟩ := h 0 x rfl
    cases e
    exact .cons f (paired_of (by simpa using hl) fun i a ea => h (i + 1) a (by simpa using ea))
def vals7 (ns : List Int) : List Int := [15, 16, 256, 257, 0, cell ns 0 % 1099511627776, 16 + cell ns 1 % 241]
section
variable {K : PySem.W.Frag} (T : PxDisk K) {a : Addr} {ns : List Int} {H : Hp} {Q : VK} {E : XK} (hS : SqL K H a (ns.map V.int)) (hl : ns.length ≤ 63) (q : ∀ H', Q (.bl true) H')
include T hS hl q
/-- what is left behind the loop of writes -/
theorem law_end {c : Int} (hc1 : 16 ≤ c) (hc2 : c ≤ 256) {d bl lg u g : Addr} {B : List (Option (List Int))} {L : List Ent} {H' : Hp} {o5 o8 o9 o10 : Option V}
    (s : Same H H') (D : DiskAt K H' d bl lg B L) (hu : BlksAt H' u B) (hg : EntsAt H' g L) (lB : B.length = c.toNat) (hL : L.length ≤ 30) (fu : H u = none) :
    (uSeq (uIfS (uOr (uTest (uOp (rNeD K) (uFld K (tVar 2) "log") (tVar 4))) (uOr (uTest (uOp (rNeD K) (uFld K (tVar 2) "blocks") (tVar 3))) (uTest (uOp (rNeD K) (uLc (jRng1 (uCons (tVar 1) uNil)) (vName 5) tYes (uMethW (He.ga K "Disk") "read" (sp_Disk_read K) W0 (tVar 2) (uCons (tVar 5) uNil)) [5]) (tVar 3))))) (uRet (uC (.bl false))) uNext) (uSeq (uAsg (uC .non) (vSub (tVar 3) (uOp rModI (uCallW (sp__law_cell K) (WE1 E) (uCons (tVar 0) (uCons (uC (.int 2)) uNil))) (tVar 1)) rSetL))
    (uSeq (uAsg (uCB (cList K) (uCons (tVar 3) uNil)) (vName 6))
    (uSeq (uAsg (uCallW (sp_disk_of K) (WE1 E) (uCons (tVar 3) uNil)) (vName 7))
    (uSeq (uIfS (uOr (uTest (uOp (rNeD K) (uFld K (tVar 7) "blocks") (tVar 3))) (uOr (uTest (uOp (rNeD K) (uFld K (tVar 7) "log") (uLst uNil))) (uTest (uOp rNotN (uMethW (He.ga K "Disk") "read" (sp_Disk_read K) (WE1 E) (tVar 7) (uCons (uOp rModI (uCallW (sp__law_cell K) (WE1 E) (uCons (tVar 0) (uCons (uC (.int 2)) uNil))) (tVar 1)) uNil)) (uC .non))))) (uRet (uC (.bl false))) uNext)
    (uSeq (uDrop (uMethW (He.ga K "Disk") "write" (sp_Disk_write K) (WE1 E) (tVar 7) (uCons (uC (.int 0)) (uCons (uCB (cTuple K) (uCons (uOp rRep (uLst (uCons (uC (.int 7)) uNil)) (uC (.int 64))) uNil)) uNil))))
    (uSeq (uAsg (uC .non) (vSub (tVar 3) (uC (.int 1)) rSetL))
    (uRet (uAndV (uOp (rEqD K) (uOp (rIxL K) (tVar 6) (uC (.int 0))) (uOp (rIxL K) (tVar 3) (uC (.int 0)))) (uAndV (uOp (rEqD K) (uMethW (He.ga K "Disk") "read" (sp_Disk_read K) (WE1 E) (tVar 7) (uCons (uC (.int 1)) uNil)) (uOp (rIxL K) (tVar 6) (uC (.int 1)))) (uOp rEq (uCB (cLenQ K) (uCons (uFld K (tVar 7) "log") uNil)) (uC (.int 1))))))))))))) (fin Q) [some (.ref a), some (.int c), some (.ref d), some (.ref u), some (.ref g), o5, none, none, o8, o9, o10, none] H' := by
  obtain ⟨⟨ex, ho⟩, ⟨ws, hb, pb⟩, ⟨ls, hlg, pl⟩, ne⟩ := id D
  walk_at "go"
  refine x_neD (dp_L D.ls) (dp_L hg) ((shp_L _).ok (by decide)) ((shp_L _).ok (by decide)) ?_
  rw [eqv_same (shp_L _)]
  walk_at "go"
  refine x_ifF rfl ?_
  walk_at "go"
  refine x_neD (dp_B D.bs) (dp_B hu) ((shp_B _).ok (by decide)) ((shp_B _).ok (by decide)) ?_
  rw [eqv_same (shp_B _)]
  walk_at "go"
  refine x_ifF rfl ?_
  walk_at "go"
  refine x_rng1 (by omega) (by omega) ?_
  refine x_lcR (n := c.toNat) (BlkR B) blkR_mono (by omega) (fun i A H1 P hi nA hA s1 hP => ⟨rfl, ?_⟩) (fun A H1 acc nA hA lA s1 hacc => ?_)
  · have hi2 : i < B.length := by omega
    have D1 := D.same s1
    obtain ⟨ex1, ho1⟩ := D1.o
    walk_at "go"
    refine x_meth_Disk_read ho1 ?_
    walk_at "go"
    refine ⟨d, bl, lg, _, B, L, B[i], rfl, D1, by omega, ?_, fun v bv => hP v H1 (Same.refl _) ⟨_, List.getElem?_eq_getElem hi2, ?_⟩⟩
    · have e0 : ((0 : Int) + (i : Int)).toNat = i := by omega
      rw [e0]
      exact List.getElem?_eq_getElem hi2
    · cases hb : B[i] with
      | none => rw [hb] at bv; exact bv
      | some b =>
        rw [hb] at bv
        obtain ⟨p, e1, e2⟩ := bv
        obtain ⟨accA, hA⟩ := hA
        exact ⟨p, e1, av_at e2 (by rw [List.mem_singleton]; exact ne_of e2 hA (by intro z; cases z))⟩
  · have pA : Paired (BlkV H1) acc B := paired_of (by rw [lA, lB]) fun i y e => by
      obtain ⟨b, e1, e2⟩ := hacc i y e
      exact ⟨b, e1, e2.le (av_le _ _)⟩
    have hA2 : BlksAt H1 A B := ⟨acc, hA, pA⟩
    have D1 := D.same s1
    have hu1 := hu.same s1
    have s := s.trans s1
    walk_at "go"
    refine x_neD (dp_B hA2) (dp_B hu1) ((shp_B _).ok (by decide)) ((shp_B _).ok (by decide)) ?_
    rw [eqv_same (shp_B _)]
    walk_at "go"
    refine x_ifF rfl ?_
    walk_at "go"
    have m0 := Int.emod_nonneg (cell ns 2) (show c ≠ 0 by omega)
    have m1 := Int.emod_lt_of_pos (cell ns 2) (show 0 < c by omega)
    generalize hj : cell ns 2 % c = j at m0 m1
    refine ⟨a, ns, 2, rfl, sq_same s hS, hl, by decide, by decide, fun H2 s2 => ?_⟩
    walk_at "go"
    refine x_modI (by omega) ?_
    rw [hj]
    obtain ⟨us, hu2, pu2⟩ := hu1.same s2
    have D2 := D1.same s2
    have lu : us.length = B.length := Paired.len pu2
    refine x_setL hu2 (ixN_nat m0 (by omega)) ?_
    have k3 : Keep [u] H2 (upd H2 u (.lst (us.set j.toNat .non))) := keepUpd (by simp) hu2 (fun xs z => by cases z)
    have hu3 : BlksAt (upd H2 u (.lst (us.set j.toNat .non))) u (B.set j.toNat none) := BlksAt.set hu2 pu2 (b := none) rfl _
    have s3 : Same H (upd H2 u (.lst (us.set j.toNat .non))) := updNew fu (s.trans s2)
    generalize (upd H2 u (.lst (us.set j.toNat .non))) = H3 at k3 hu3 s3
    have lB2 : (B.set j.toNat none).length = c.toNat := by rw [List.length_set, lB]
    have eB2 : (B.set j.toNat none)[j.toNat]? = some none := by
      rw [List.getElem?_set_self (by omega)]
    generalize B.set j.toNat none = B2 at hu3 lB2 eB2
    obtain ⟨us3, hu3, pu3⟩ := hu3
    walk_at "go"
    refine x_listL (SqL.of hu3) fun kp H4 nkp hkp s4 => ?_
    walk_at "go"
    have pk : Paired (BlkV H4) us3 B2 := L2.Paired.mapP pu3 fun _ _ z => z.le (Same.le s4)
    have hu4 := s4 _ _ hu3
    refine ⟨u, B2, rfl, ⟨us3, hu4, pk⟩, by omega, by omega, fun d2 bl2 lg2 H5 nd2 nb2 nl2 s5 D5 => ?_⟩
    walk_at "go"
    have hu5 : BlksAt H5 u B2 := ⟨us3, s5 _ _ hu4, L2.Paired.mapP pk fun _ _ z => z.le (Same.le s5)⟩
    have hk5 := s5 _ _ hkp
    obtain ⟨ex2, ho2⟩ := D5.o
    walk_at "go"
    refine x_neD (dp_B D5.bs) (dp_B hu5) ((shp_B _).ok (by decide)) ((shp_B _).ok (by decide)) ?_
    rw [eqv_same (shp_B _)]
    walk_at "go"
    refine x_ifF rfl ?_
    walk_at "go"
    refine x_lst fun l H6 nl hl6 s6 => ?_
    have D6 := D5.same s6
    walk_at "go"
    refine x_neD (dp_L D6.ls) (.lst (SqL.of hl6) .nil) ((shp_L _).ok (by decide)) ((shp_L []).ok (by decide)) ?_
    rw [show PyData.eqv (dL []) (.list []) = true from eqv_same (shp_L [])]
    walk_at "go"
    refine x_ifF rfl ?_
    walk_at "go"
    refine x_meth_Disk_read (s6 _ _ ho2) ?_
    walk_at "go"
    refine ⟨a, ns, 2, rfl, sq_same (((s3.trans s4).trans s5).trans s6) hS, hl, by decide, by decide, fun H7 s7 => ?_⟩
    walk_at "go"
    refine x_modI (by omega) ?_
    rw [hj]
    have D7 := D6.same s7
    refine ⟨d2, bl2, lg2, j, B2, [], none, rfl, D7, m0, eB2, fun v bv => ?_⟩
    rw [show v = .non from bv]
    walk_at "go"
    refine x_ifF rfl ?_
    walk_at "go"
    obtain ⟨ex7, ho7⟩ := D7.o
    refine x_meth_Disk_write ho7 ?_
    walk_at "go"
    refine x_lst fun l8 H8 nl8 hl8 s8 => ?_
    walk_at "go"
    refine x_rep hl8 (by decide) (by decide) (by rw [sizeLine_eq]; exact Nat.le_of_ble_eq_true rfl) fun l9 H9 nl9 hl9 s9 => ?_
    walk_at "go"
    refine x_tupleL (SqL.of hl9) fun l10 H10 nl10 hl10 s10 => ?_
    walk_at "go"
    have D10 := ((D7.same s8).same s9).same s10
    have e7 : (List.replicate (Int.toNat 64) [V.int 7]).flatten = (List.replicate 64 7).map V.int := by rw [flat_one, List.map_replicate] <;> rfl
    rw [e7] at hl10
    refine ⟨d2, bl2, lg2, l10, 0, B2, [], List.replicate 64 7, rfl, D10, by decide, by show 0 < B2.length; omega, by decide, hl10, fun H11 k11 D11 => ?_⟩
    walk_at "go"
    have sA : Same H4 H10 := ((((s5.trans s6).trans s7).trans s8).trans s9).trans s10
    have sB : Same H4 H11 := keepNew (ms := [bl2, lg2]) (fun x hx => by
      rcases List.mem_cons.mp hx with e | hx
      · rw [e]; exact nb2
      · rw [List.mem_singleton.mp hx]; exact nl2) sA k11
    have hu11 := sB _ _ hu4
    have hk11 := sB _ _ hkp
    have lu3 : us3.length = B2.length := Paired.len pu3
    refine x_setL hu11 (ixN_nat (by decide) (by show 1 < us3.length; omega)) ?_
    have k12 : Keep [u] H11 (upd H11 u (.lst (us3.set (Int.toNat 1) .non))) := keepUpd (by simp) hu11 (fun xs z => by cases z)
    have nku : kp ≠ u := Ne.symm (ne_of_none hu3 nkp)
    have hk12 := k12.k kp _ (by rw [List.mem_singleton]; exact nku) hk11
    have hu12 : upd H11 u (.lst (us3.set (Int.toNat 1) .non)) u = some (.lst (us3.set (Int.toNat 1) .non)) := upd_same
    have D12 := DiskAt.keep1 D11 hu11 k12 (Ne.symm (ne_of_none hu4 nb2)) (Ne.symm (ne_of_none hu4 nl2))
    have pk12 : Paired (BlkV (upd H11 u (.lst (us3.set (Int.toNat 1) .non)))) us3 B2 := L2.Paired.mapP pk fun _ _ z => (z.le (Same.le sB)).tu k12.t
    generalize (upd H11 u (.lst (us3.set (Int.toNat 1) .non))) = H12 at k12 hk12 hu12 D12 pk12
    have b0 : 0 < B2.length := by omega
    have b1 : 1 < B2.length := by omega
    obtain ⟨v0, hv0, bv0⟩ := paired_at (i := 0) pk12 (List.getElem?_eq_getElem b0)
    obtain ⟨v1, hv1, bv1⟩ := paired_at (i := 1) pk12 (List.getElem?_eq_getElem b1)
    walk_at "go"
    refine x_ixL (SqL.of hk12) (atI_of (by decide) hv0) ?_
    walk_at "go"
    refine x_ixL (v := v0) (SqL.of hu12) (atI_of (by decide) (by
      show (us3.set 1 .non)[0]? = _
      rw [List.getElem?_set_ne (by decide)]
      exact hv0)) ?_
    refine x_eqD (dp_blk bv0) (dp_blk bv0) ((shp_blk _).ok (by decide)) ((shp_blk _).ok (by decide)) ?_
    rw [eqv_same (shp_blk _)]
    walk_at "go"
    refine x_ifT rfl ?_
    obtain ⟨ex12, ho12⟩ := D12.o
    obtain ⟨lgs, hlg12, plg12⟩ := D12.l
    walk_at "go"
    refine x_meth_Disk_read ho12 ?_
    walk_at "go"
    refine ⟨d2, bl2, lg2, 1, _, _, B2[1], rfl, D12, by decide, ?_, fun v bv => ?_⟩
    · show (B2.set 0 _)[1]? = _
      rw [List.getElem?_set_ne (by decide)]
      exact List.getElem?_eq_getElem b1
    walk_at "go"
    refine x_ixL (SqL.of hk12) (atI_of (by decide) hv1) ?_
    refine x_eqD (dp_blk bv) (dp_blk bv1) ((shp_blk _).ok (by decide)) ((shp_blk _).ok (by decide)) ?_
    rw [eqv_same (shp_blk _)]
    walk_at "go"
    refine x_ifT rfl ?_
    walk_at "go"
    refine x_lenL hlg12 ?_
    have ll : (lgs.length : Int) = 1 := by rw [Paired.len plg12]; rfl
    rw [ll]
    walk_at "go"
    exact q _

theorem pure_law_in : t_law K (WE1 E) (fin Q) (start ["_law_script", "_law_count", "_law_disk", "_law_due", "_law_log", "_law_k", "_law_kept", "_law_other", "_law_more", "_law_number", "_law_block", "_law_j"] [.ref a]) H := by
  show t_law K _ (fin Q) [some (.ref a), none, none, none, none, none, none, none, none, none, none, none] H
  unfold t_law
  walk_at "go"
  refine ⟨a, ns, 0, rfl, hS, hl, by decide, by decide, fun H1 s1 => ?_⟩
  walk_at "go"
  refine x_shl ⟨by decide, by decide, by decide⟩ ?_
  refine x_modI (by decide) ?_
  walk_at "go"
  refine ⟨a, ns, 1, rfl, sq_same s1 hS, hl, by decide, by decide, fun H2 s2 => ?_⟩
  walk_at "go"
  refine x_modI (by decide) ?_
  walk_at "go"
  refine x_lst fun p H3 np hp s3 => ?_
  have hp : H3 p = some (.lst ((vals7 ns).map V.int)) := hp
  have sH := (s1.trans s2).trans s3
  refine x_ilist (SqL.of hp) ?_
  refine x_forL (xs := (vals7 ns).map V.int) (fun i σ H' => (∃ o, σ = [some (.ref a), o, none, none, none, none, none, none, none, none, none, none]) ∧ Same H3 H') ⟨⟨_, rfl⟩, Same.refl _⟩ (fun i σ H' _ h => SqL.of (h.2 _ _ hp)) (fun i x σ H' hx h => ?_) (fun σ H' h => ?_)
  · obtain ⟨⟨o, rfl⟩, s⟩ := h
    rw [List.getElem?_map] at hx
    obtain ⟨c, hc, rfl⟩ := Option.map_eq_some_iff.mp hx
    walk_at "go"
    refine ⟨c, rfl, fun H4 s4 => ?_⟩
    walk_at "go"
    refine x_lst fun l H5 nl hl5 s5 => ?_
    have fin5 : ∀ b : Bool, b = (decide (c < 16) || decide (256 < c)) → cInt [.bl b] H5 (fun z H' => rIxL K (.ref l) z H' fun y H'' => rNeD K (vMade c) y H'' fun x H' => rBl (fun b H1 => if b = true then uRet (uC (V.bl false)) ⟨fun σ H => (∃ o, σ = [some (.ref a), o, none, none, none, none, none, none, none, none, none, none]) ∧ Same H3 H, fun v H => Q v H, fun _ _ => True, fun _ _ => True⟩ [] H1 else (∃ o, [some (V.ref a), some (.int c), none, none, none, none, none, none, none, none, none, none] = [some (V.ref a), o, none, none, none, none, none, none, none, none, none, none]) ∧ Same H3 H1) x H') := fun b eb => by
      refine .inr ⟨b, rfl, ?_⟩
      have hv : rNeD K (vMade c) (vMade c) H5 fun x H' => rBl (fun b H1 => if b = true then uRet (uC (V.bl false)) ⟨fun σ H => (∃ o, σ = [some (.ref a), o, none, none, none, none, none, none, none, none, none, none]) ∧ Same H3 H, fun v H => Q v H, fun _ _ => True, fun _ _ => True⟩ [] H1 else (∃ o, [some (V.ref a), some (.int c), none, none, none, none, none, none, none, none, none, none] = [some (V.ref a), o, none, none, none, none, none, none, none, none, none, none]) ∧ Same H3 H1) x H' := by
        have dd : Dp K H5 (vMade c) (dMade c) := by
          unfold vMade dMade
          by_cases e : 16 ≤ c ∧ c ≤ 256
          · rw [if_pos e, if_pos e]; exact .int _
          · rw [if_neg e, if_neg e]; exact .str _
        have sd : Shp 0 (dMade c) := by
          unfold dMade
          by_cases e : 16 ≤ c ∧ c ≤ 256
          · rw [if_pos e]; exact Shp.int _
          · rw [if_neg e]; exact Shp.str (by decide +kernel)
        refine x_neD dd dd (sd.ok (by decide)) (sd.ok (by decide)) ?_
        rw [eqv_same sd]
        refine x_bl ?_
        rw [if_neg (by decide)]
        exact ⟨⟨_, rfl⟩, (s.trans s4).trans s5⟩
      subst eb
      by_cases e : 16 ≤ c ∧ c ≤ 256
      · rw [decide_eq_false (show ¬ c < 16 by omega), decide_eq_false (show ¬ 256 < c by omega)]
        refine x_ixL (v := vMade c) (SqL.of hl5) (atI_of (by decide) (by unfold vMade; rw [if_pos e]; rfl)) ?_
        exact hv
      · have e2 : (decide (c < 16) || decide (256 < c)) = true := by
          by_cases e3 : c < 16
          · rw [decide_eq_true e3]; rfl
          · rw [decide_eq_true (show 256 < c by omega), Bool.or_true]
        rw [e2]
        refine x_ixL (v := vMade c) (SqL.of hl5) (atI_of (by decide) (by unfold vMade; rw [if_neg e]; rfl)) ?_
        exact hv
    walk_at "go"
    refine x_if (fun h => ?_) (fun h => ?_)
    · walk_at "go"
      exact fin5 true (by rw [h]; rfl)
    · walk_at "go"
      exact fin5 _ (by rw [h]; rfl)
  · obtain ⟨⟨o, rfl⟩, s⟩ := h
    have sA := sH.trans s
    walk_at "go"
    refine ⟨a, ns, 0, rfl, sq_same sA hS, hl, by decide, by decide, fun H4 s4 => ?_⟩
    walk_at "go"
    refine x_modI (by decide) ?_
    walk_at "go"
    have m0 := Int.emod_nonneg (cell ns 0) (show (241 : Int) ≠ 0 by decide)
    have m1 := Int.emod_lt_of_pos (cell ns 0) (show (0 : Int) < 241 by decide)
    have hc1 : 16 ≤ 16 + cell ns 0 % 241 := by omega
    have hc2 : 16 + cell ns 0 % 241 ≤ 256 := by omega
    generalize 16 + cell ns 0 % 241 = c at hc1 hc2
    refine x_make fun d dx H5 nd hd s5 => ?_
    refine ⟨d, dx, _, rfl, hd, ?_⟩
    rw [if_pos ⟨hc1, hc2⟩]
    intro bl lg H6 nb nl k6 D6
    refine ⟨rfl, ?_⟩
    have s6 : Same H4 H6 := keepNew (fun x hx => by rw [List.mem_singleton.mp hx]; exact nd) s5 k6
    have sB := (sA.trans s4).trans s6
    have fb : H bl = none := (sA.trans s4).free (s5.free nb)
    have fl : H lg = none := (sA.trans s4).free (s5.free nl)
    walk_at "go"
    refine x_lst fun l1 H7 n7 h7 s7 => ?_
    walk_at "go"
    refine x_rep h7 (by decide) (by decide) (by rw [sizeLine_eq]; exact Nat.le_of_ble_eq_true rfl) fun l2 H8 n8 h8 s8 => ?_
    walk_at "go"
    refine x_tupleL (SqL.of h8) fun t H9 n9 h9 s9 => ?_
    have e0 : (List.replicate (Int.toNat 64) [V.int 0]).flatten = (List.replicate 64 0).map V.int := by rw [flat_one, List.map_replicate] <;> rfl
    rw [e0] at h9
    walk_at "go"
    refine x_lst fun l3 H10 n10 h10 s10 => ?_
    walk_at "go"
    refine x_rep h10 (by omega) (by omega) (by rw [sizeLine_eq]; show 1 * c.toNat ≤ _; omega) fun u H11 nu hu s11 => ?_
    walk_at "go"
    refine x_lst fun g H12 ng hg s12 => ?_
    walk_at "go"
    have sC : Same H6 H11 := ((((s7.trans s8).trans s9).trans s10).trans s11)
    have D12 := (D6.same sC).same s12
    have bu : BlksAt H12 u (List.replicate c.toNat (some (List.replicate 64 0))) := by
      refine ⟨_, s12 _ _ hu, ?_⟩
      rw [flat_one]
      exact paired_rep ⟨t, rfl, s12 _ _ (s11 _ _ (s10 _ _ h9))⟩
    have eg : EntsAt H12 g [] := ⟨[], hg, .nil⟩
    have sD : Same H H11 := sB.trans sC
    have fu : H u = none := (sB.trans (((s7.trans s8).trans s9).trans s10)).free nu
    have fg : H g = none := sD.free ng
    have nbu : bl ≠ u := D6.bs.ne ((((s7.trans s8).trans s9).trans s10).free nu)
    have nlu : lg ≠ u := D6.ls.ne ((((s7.trans s8).trans s9).trans s10).free nu)
    have nbg : bl ≠ g := D6.bs.ne (sC.free ng)
    have nlg : lg ≠ g := D6.ls.ne (sC.free ng)
    have nug : u ≠ g := ne_of_none hu ng
    have sE := sD.trans s12
    obtain ⟨ex, ho⟩ := id D12.o
    walk_at "go"
    refine x_neD (dp_B D12.bs) (dp_B bu) ((shp_B _).ok (by decide)) ((shp_B _).ok (by decide)) ?_
    rw [eqv_same (shp_B _)]
    walk_at "go"
    refine x_ifF rfl ?_
    walk_at "go"
    refine x_lst fun l5 H13 n13 h13 s13 => ?_
    walk_at "go"
    have D13 := D12.same s13
    refine x_neD (dp_L D13.ls) (.lst (SqL.of h13) .nil) ((shp_L _).ok (by decide)) ((shp_L []).ok (by decide)) ?_
    rw [show PyData.eqv (dL []) (.list []) = true from eqv_same (shp_L [])]
    walk_at "go"
    refine x_ifF rfl ?_
    walk_at "go"
    refine ⟨_, _, rfl, .inl (sq_same (sE.trans s13) hS), ?_⟩
    rw [List.length_map]
    refine ⟨_, _, rfl, ?_⟩
    refine ⟨_, _, rfl, ?_⟩
    have hn : ∃ n : Int, (if (if (ns.length : Int) < 30 then (ns.length : Int) else 30) > 1 then (if (ns.length : Int) < 30 then (ns.length : Int) else 30) else 1) = n ∧ 0 ≤ n ∧ n ≤ 30 := by
      refine ⟨_, rfl, ?_⟩
      split <;> split <;> omega
    obtain ⟨n, en, hn0, hn1⟩ := hn
    rw [en]
    refine x_rng1 (by omega) (by omega) ?_
    have bu := bu.same s13
    have eg := eg.same s13
    have sF := sE.trans s13
    have fo : ∀ x ∈ [bl, lg], H x = none := fun x hx => by
      rcases List.mem_cons.mp hx with e | hx
      · rw [e]; exact fb
      · rw [List.mem_singleton.mp hx]; exact fl
    refine x_forR (fun i σ H' => ∃ B L o5 o8 o9 o10, σ = [some (.ref a), some (.int c), some (.ref d), some (.ref u), some (.ref g), o5, none, none, o8, o9, o10, none] ∧ Same H H' ∧ DiskAt K H' d bl lg B L ∧ BlksAt H' u B ∧ EntsAt H' g L ∧ B.length = c.toNat ∧ L.length ≤ i)
      ⟨_, _, _, _, _, _, rfl, sF, D13, bu, eg, by rw [List.length_replicate], Nat.le_refl _⟩ (fun i σ H' hi h => ?_) (fun σ H' h => ?_)
    · obtain ⟨B, L, o5, o8, o9, o10, rfl, s, D, hu, hg, lB, lL⟩ := h
      have hi30 : i < 30 := by omega
      walk_at "go"
      refine ⟨a, ns, _, rfl, sq_same s hS, hl, by omega, by omega, fun H1 s1 => ?_⟩
      walk_at "go"
      refine ⟨_, _, rfl, ?_⟩
      have dn := drawn_nn (cell ns ((0 : Int) + (i : Int))) ((0 : Int) + (i : Int))
      generalize drawn (cell ns ((0 : Int) + (i : Int))) ((0 : Int) + (i : Int)) = m at dn
      have D := D.same s1
      have hu := hu.same s1
      have hg := hg.same s1
      have s := s.trans s1
      walk_at "go"
      refine x_modI (by decide) ?_
      walk_at "go"
      obtain ⟨ex1, ho1⟩ := id D.o
      refine x_if (fun _ => ?_) (fun _ => ?_)
      · walk_at "go"
        refine x_meth_Disk_barrier ho1 ?_
        walk_at "go"
        refine ⟨d, bl, lg, B, L, rfl, D, by omega, fun H2 k2 D2 => ?_⟩
        walk_at "go"
        have hg2 := hg.keep k2 (by rw [List.mem_singleton]; exact Ne.symm nlg)
        have hu2 := hu.keep k2 (by rw [List.mem_singleton]; exact Ne.symm nlu)
        obtain ⟨gs, hg2, pg2⟩ := hg2
        have s2 : Same H H2 := keepNew (fun x hx => by rw [List.mem_singleton.mp hx]; exact fl) s k2
        walk_at "go"
        refine x_tup fun t2 H3 n3 h3 s3 => ?_
        walk_at "go"
        refine x_app (s3 _ _ hg2) (by rw [Paired.len pg2, sizeLine_eq]; omega) ?_
        have k4 : Keep [g] H3 (upd H3 g (.lst (gs ++ [.ref t2]))) := keepUpd (by simp) (s3 _ _ hg2) (fun xs z => by cases z)
        have h3' := k4.t _ _ h3
        refine ⟨B, L ++ [.bar], _, _, _, _, rfl, updNew fg (s2.trans s3), (D2.same s3).keep1 (s3 _ _ hg2) k4 nbg nlg, (hu2.same s3).keep k4 (by rw [List.mem_singleton]; exact nug), ⟨_, upd_same, ?_⟩, lB, by rw [List.length_append]; exact Nat.succ_le_succ lL⟩
        exact Paired.snoc (L2.Paired.mapP pg2 fun _ _ z => (z.tu fun a xs e => k4.t _ _ (s3 a _ e))) ⟨t2, rfl, h3'⟩
      · walk_at "go"
        refine x_divI ⟨by decide, by decide⟩ ?_
        walk_at "go"
        refine x_modI (by omega) ?_
        walk_at "go"
        have j0 := Int.emod_nonneg (m / 4) (show c ≠ 0 by omega)
        have j1 := Int.emod_lt_of_pos (m / 4) (show 0 < c by omega)
        generalize m / 4 % c = j at j0 j1
        refine x_rng1 (by decide) (by decide) ?_
        refine x_lcR (n := Int.toNat 64) (fun i' y _ => y = .int ((m / ((0 : Int) + (i' : Int) + 1) + cell ns ((0 : Int) + (i : Int))) % 256)) (fun _ _ _ _ _ h => h) (by decide) (fun i' A H2 P hi' nA hA s2 hP => ⟨rfl, ?_⟩) (fun A H2 acc nA hA lA s2 hacc => ?_)
        · walk_at "go"
          refine x_divI ⟨by omega, by have : i' < 64 := hi'; omega⟩ ?_
          walk_at "go"
          refine ⟨a, ns, _, rfl, sq_same (s.trans s2) hS, hl, by omega, by omega, fun H3 s3 => ?_⟩
          walk_at "go"
          refine x_modI (by decide) ?_
          exact hP _ _ s3 rfl
        · have ea : acc = ((List.range (Int.toNat 64)).map fun i' : Nat => (m / ((0 : Int) + (i' : Int) + 1) + cell ns ((0 : Int) + (i : Int))) % 256).map V.int := by
            rw [List.map_map]
            exact list_is lA hacc
          generalize ((List.range (Int.toNat 64)).map fun i' : Nat => (m / ((0 : Int) + (i' : Int) + 1) + cell ns ((0 : Int) + (i : Int))) % 256) = blk at ea
          subst ea
          walk_at "go"
          refine x_tupleL (SqL.of hA) fun t2 H3 n3 h3 s3 => ?_
          walk_at "go"
          have s23 := s2.trans s3
          have s := s.trans s23
          have D := D.same s23
          have hu := hu.same s23
          have hg := hg.same s23
          obtain ⟨ex3, ho3⟩ := id D.o
          refine x_meth_Disk_write ho3 ?_
          walk_at "go"
          have hj : j.toNat < B.length := by omega
          refine ⟨d, bl, lg, t2, j, B, L, blk, rfl, D, j0, hj, by omega, h3, fun H4 k4 D4 => ?_⟩
          have n2 : ∀ {z : Addr}, bl ≠ z → lg ≠ z → z ∉ [bl, lg] := fun h1 h2 hz => by
            rcases List.mem_cons.mp hz with e | hz
            · exact h1 e.symm
            · exact h2 (List.mem_singleton.mp hz).symm
          have hu4 := hu.keep k4 (n2 nbu nlu)
          have hg4 := hg.keep k4 (n2 nbg nlg)
          have s4 := keepNew fo s k4
          have h4 := k4.t _ _ h3
          obtain ⟨us, hu4, pu4⟩ := hu4
          walk_at "go"
          refine x_setL hu4 (ixN_nat j0 (by rw [Paired.len pu4]; exact hj)) ?_
          have k5 : Keep [u] H4 (upd H4 u (.lst (us.set j.toNat (.ref t2)))) := keepUpd (by simp) hu4 (fun xs z => by cases z)
          have hu5 : BlksAt (upd H4 u (.lst (us.set j.toNat (.ref t2)))) u (B.set j.toNat (some blk)) := BlksAt.set hu4 pu4 (b := some blk) ⟨t2, rfl, h4⟩ _
          have hg5 := hg4.keep k5 (by rw [List.mem_singleton]; exact Ne.symm nug)
          have D5 := D4.keep1 hu4 k5 nbu nlu
          have h5 := k5.t _ _ h4
          have s5 := updNew (o := .lst (us.set j.toNat (.ref t2))) fu s4
          generalize upd H4 u (.lst (us.set j.toNat (.ref t2))) = H5 at k5 hu5 hg5 D5 h5 s5
          obtain ⟨gs, hg5, pg5⟩ := hg5
          walk_at "go"
          refine x_tup fun t3 H6 n6 h6 s6 => ?_
          walk_at "go"
          refine x_app (s6 _ _ hg5) (by rw [Paired.len pg5, sizeLine_eq]; omega) ?_
          have k7 : Keep [g] H6 (upd H6 g (.lst (gs ++ [.ref t3]))) := keepUpd (by simp) (s6 _ _ hg5) (fun xs z => by cases z)
          have h7 := k7.t _ _ h6
          have h7' := k7.t _ _ (s6 _ _ h5)
          have D7 := (D5.same s6).keep1 (s6 _ _ hg5) k7 nbg nlg
          have hu7 := (hu5.same s6).keep k7 (by rw [List.mem_singleton]; exact nug)
          have hg7 : EntsAt (upd H6 g (.lst (gs ++ [.ref t3]))) g (L ++ [.wr j blk]) := ⟨_, upd_same, Paired.snoc (L2.Paired.mapP pg5 fun _ _ z => (z.tu fun a xs e => k7.t _ _ (s6 a _ e))) ⟨t3, t2, rfl, h7, h7'⟩⟩
          have s7 := updNew (o := .lst (gs ++ [.ref t3])) fg (s5.trans s6)
          generalize upd H6 g (.lst (gs ++ [.ref t3])) = H7 at k7 h7 h7' D7 hu7 hg7 s7
          obtain ⟨ex7, ho7⟩ := id D7.o
          walk_at "go"
          refine x_meth_Disk_read ho7 ?_
          walk_at "go"
          refine ⟨d, bl, lg, j, _, _, some blk, rfl, D7, j0, List.getElem?_set_self hj, fun v bv => ?_⟩
          walk_at "go"
          refine x_neD (dp_blk bv) (dp_blk (b := some blk) ⟨t2, rfl, h7'⟩) ((shp_blk _).ok (by decide)) ((shp_blk _).ok (by decide)) ?_
          rw [eqv_same (shp_blk _)]
          walk_at "go"
          refine x_ifF rfl ?_
          walk_at "go"
          exact ⟨_, _, _, _, _, _, rfl, s7, D7, hu7, hg7, by rw [List.length_set, lB], by rw [List.length_append]; exact Nat.succ_le_succ lL⟩
    · obtain ⟨B, L, o5, o8, o9, o10, rfl, s, D, hu, hg, lB, lL⟩ := h
      exact law_end T hS hl q hc1 hc2 s D hu hg lB (by omega) fu
end
theorem pure_law {K : PySem.W.Frag} (T : PxDisk K) {vs : List V} {H : Hp} {Q : VK} {E : XK} (h : sp_law K vs H Q E) : t_law K (WE1 E) (fin Q) (start ["_law_script", "_law_count", "_law_disk", "_law_due", "_law_log", "_law_k", "_law_kept", "_law_other", "_law_more", "_law_number", "_law_block", "_law_j"] vs) H := by
  obtain ⟨a, ns, rfl, hS, hl, q⟩ := h
  exact pure_law_in T hS hl q
end SP

set_option Elab.async false
set_option linter.all false
set_option maxRecDepth 100000
set_option maxHeartbeats 0
namespace SP
open PySem PySem.Spec PyProof.Rows L2 L2H
def top (i : Nat) : Stmt := PySem.Challenge.pw_stillpoint_k11_disks.main.body.getD i (.Pass ⟨0, 0, 0, 0⟩)
abbrev s_Disk___init__ : Stmt := inClass (top 16) 0
abbrev N_Disk___init__ : List Str := ["self", "count"]
theorem sc_Disk___init__ : FnScope N_Disk___init__ ["self", "count"] (defScope s_Disk___init__) := ⟨rfl, rfl, rfl, by decide +kernel, rfl, by decide +kernel, by decide +kernel⟩
abbrev s_Disk_read : Stmt := inClass (top 16) 1
abbrev N_Disk_read : List Str := ["self", "number"]
theorem sc_Disk_read : FnScope N_Disk_read ["self", "number"] (defScope s_Disk_read) := ⟨rfl, rfl, rfl, by decide +kernel, rfl, by decide +kernel, by decide +kernel⟩
abbrev s_Disk_write : Stmt := inClass (top 16) 2
abbrev N_Disk_write : List Str := ["self", "number", "block"]
theorem sc_Disk_write : FnScope N_Disk_write ["self", "number", "block"] (defScope s_Disk_write) := ⟨rfl, rfl, rfl, by decide +kernel, rfl, by decide +kernel, by decide +kernel⟩
abbrev s_Disk_barrier : Stmt := inClass (top 16) 3
abbrev N_Disk_barrier : List Str := ["self"]
theorem sc_Disk_barrier : FnScope N_Disk_barrier ["self"] (defScope s_Disk_barrier) := ⟨rfl, rfl, rfl, by decide +kernel, rfl, by decide +kernel, by decide +kernel⟩
abbrev s_disk_of : Stmt := top 17
abbrev N_disk_of : List Str := ["blocks", "disk", "number"]
theorem sc_disk_of : FnScope N_disk_of ["blocks"] (defScope s_disk_of) := ⟨rfl, rfl, rfl, by decide +kernel, rfl, by decide +kernel, by decide +kernel⟩
abbrev s__law_cell : Stmt := top 19
abbrev N__law_cell : List Str := ["_law_script", "_law_k"]
theorem sc__law_cell : FnScope N__law_cell ["_law_script", "_law_k"] (defScope s__law_cell) := ⟨rfl, rfl, rfl, by decide +kernel, rfl, by decide +kernel, by decide +kernel⟩
abbrev s__law_drawn : Stmt := top 20
abbrev N__law_drawn : List Str := ["_law_cell_here", "_law_k", "_law_more"]
theorem sc__law_drawn : FnScope N__law_drawn ["_law_cell_here", "_law_k"] (defScope s__law_drawn) := ⟨rfl, rfl, rfl, by decide +kernel, rfl, by decide +kernel, by decide +kernel⟩
abbrev s__law_word : Stmt := top 21
abbrev N__law_word : List Str := ["_law_e", "_law_flags", "_law_names"]
theorem sc__law_word : FnScope N__law_word ["_law_e"] (defScope s__law_word) := ⟨rfl, rfl, rfl, by decide +kernel, rfl, by decide +kernel, by decide +kernel⟩
abbrev s__law_made : Stmt := top 22
abbrev N__law_made : List Str := ["_law_count", "_law_e"]
theorem sc__law_made : FnScope N__law_made ["_law_count"] (defScope s__law_made) := ⟨rfl, rfl, rfl, by decide +kernel, rfl, by decide +kernel, by decide +kernel⟩
abbrev s_law : Stmt := top 23
abbrev N_law : List Str := ["_law_script", "_law_count", "_law_disk", "_law_due", "_law_log", "_law_k", "_law_kept", "_law_other", "_law_more", "_law_number", "_law_block", "_law_j"]
theorem sc_law : FnScope N_law ["_law_script"] (defScope s_law) := ⟨rfl, rfl, rfl, by decide +kernel, rfl, by decide +kernel, by decide +kernel⟩
structure Tx (K : PySem.W.Frag) (mg : Str → Option Value) : Prop where
  g_StillError : mg "StillError" = some (.ref (He.ga K "StillError"))
  e_StillError : ExcX K mg "StillError"
  g_NoThing : mg "NoThing" = some (.ref (He.ga K "NoThing"))
  e_NoThing : ExcX K mg "NoThing"
  g_NoDirectory : mg "NoDirectory" = some (.ref (He.ga K "NoDirectory"))
  e_NoDirectory : ExcX K mg "NoDirectory"
  g_BadName : mg "BadName" = some (.ref (He.ga K "BadName"))
  e_BadName : ExcX K mg "BadName"
  g_IsThere : mg "IsThere" = some (.ref (He.ga K "IsThere"))
  e_IsThere : ExcX K mg "IsThere"
  g_NoRoom : mg "NoRoom" = some (.ref (He.ga K "NoRoom"))
  e_NoRoom : ExcX K mg "NoRoom"
  g_NotEmpty : mg "NotEmpty" = some (.ref (He.ga K "NotEmpty"))
  e_NotEmpty : ExcX K mg "NotEmpty"
  g_WrongKind : mg "WrongKind" = some (.ref (He.ga K "WrongKind"))
  e_WrongKind : ExcX K mg "WrongKind"
  g_TooGreat : mg "TooGreat" = some (.ref (He.ga K "TooGreat"))
  e_TooGreat : ExcX K mg "TooGreat"
  g_ReadOnly : mg "ReadOnly" = some (.ref (He.ga K "ReadOnly"))
  e_ReadOnly : ExcX K mg "ReadOnly"
  g_NoFiles : mg "NoFiles" = some (.ref (He.ga K "NoFiles"))
  e_NoFiles : ExcX K mg "NoFiles"
  g_Disk : mg "Disk" = some (.ref (He.ga K "Disk"))
  x_Disk : PxDisk K
  k_Disk : Mk K (He.ga K "Disk") (He.ma K (He.ga K "Disk") "__init__")
  d_Disk___init__ : ∃ fd, FunD K "__init__" "Disk.__init__" (defArgs s_Disk___init__) (defBody s_Disk___init__) (defScope s_Disk___init__) [] [] (He.ma K (He.ga K "Disk") "__init__") fd
  m_Disk_read : Meth K (He.ga K "Disk") "read" (He.ma K (He.ga K "Disk") "read")
  d_Disk_read : ∃ fd, FunD K "read" "Disk.read" (defArgs s_Disk_read) (defBody s_Disk_read) (defScope s_Disk_read) [] [] (He.ma K (He.ga K "Disk") "read") fd
  m_Disk_write : Meth K (He.ga K "Disk") "write" (He.ma K (He.ga K "Disk") "write")
  d_Disk_write : ∃ fd, FunD K "write" "Disk.write" (defArgs s_Disk_write) (defBody s_Disk_write) (defScope s_Disk_write) [] [] (He.ma K (He.ga K "Disk") "write") fd
  m_Disk_barrier : Meth K (He.ga K "Disk") "barrier" (He.ma K (He.ga K "Disk") "barrier")
  d_Disk_barrier : ∃ fd, FunD K "barrier" "Disk.barrier" (defArgs s_Disk_barrier) (defBody s_Disk_barrier) (defScope s_Disk_barrier) [] [] (He.ma K (He.ga K "Disk") "barrier") fd
  g_disk_of : mg "disk_of" = some (.ref (He.ga K "disk_of"))
  d_disk_of : ∃ fd, FunD K "disk_of" "disk_of" (defArgs s_disk_of) (defBody s_disk_of) (defScope s_disk_of) [] [] (He.ga K "disk_of") fd
  g__law_cell : mg "_law_cell" = some (.ref (He.ga K "_law_cell"))
  d__law_cell : ∃ fd, FunD K "_law_cell" "_law_cell" (defArgs s__law_cell) (defBody s__law_cell) (defScope s__law_cell) [] [] (He.ga K "_law_cell") fd
  g__law_drawn : mg "_law_drawn" = some (.ref (He.ga K "_law_drawn"))
  d__law_drawn : ∃ fd, FunD K "_law_drawn" "_law_drawn" (defArgs s__law_drawn) (defBody s__law_drawn) (defScope s__law_drawn) [] [] (He.ga K "_law_drawn") fd
  g__law_word : mg "_law_word" = some (.ref (He.ga K "_law_word"))
  d__law_word : ∃ fd, FunD K "_law_word" "_law_word" (defArgs s__law_word) (defBody s__law_word) (defScope s__law_word) [] [] (He.ga K "_law_word") fd
  g__law_made : mg "_law_made" = some (.ref (He.ga K "_law_made"))
  d__law_made : ∃ fd, FunD K "_law_made" "_law_made" (defArgs s__law_made) (defBody s__law_made) (defScope s__law_made) [] [] (He.ga K "_law_made") fd
  g_law : mg "law" = some (.ref (He.ga K "law"))
  d_law : ∃ fd, FunD K "law" "law" (defArgs s_law) (defBody s_law) (defScope s_law) [] [] (He.ga K "law") fd
  b_len : mg "len" = none
  b_any : mg "any" = none
  b_min : mg "min" = none
  b_max : mg "max" = none
  b_ord : mg "ord" = none
  b_list : mg "list" = none
  b_tuple : mg "tuple" = none
  b_int : mg "int" = none
  b_range : mg "range" = none
  b_isinstance : mg "isinstance" = none
  b_ValueError : mg "ValueError" = none
  i_SIZE : ∃ t, mg "SIZE" = some (.int 64 t)
  i_LEAST : ∃ t, mg "LEAST" = some (.int 16 t)
  i_MOST : ∃ t, mg "MOST" = some (.int 256 t)
  x10 : XK10 K
theorem len_Disk___init__ {K : PySem.W.Frag} {vs : List V} {H : Hp} {Q : VK} {E : XK} (h : sp_Disk___init__ K vs H Q E) : vs.length = 2 := by
  unfold sp_Disk___init__ at h
  repeat (obtain ⟨_, h⟩ := h)
  subst_vars
  rfl
theorem len_Disk_read {K : PySem.W.Frag} {vs : List V} {H : Hp} {Q : VK} {E : XK} (h : sp_Disk_read K vs H Q E) : vs.length = 2 := by
  unfold sp_Disk_read at h
  repeat (obtain ⟨_, h⟩ := h)
  subst_vars
  rfl
theorem len_Disk_write {K : PySem.W.Frag} {vs : List V} {H : Hp} {Q : VK} {E : XK} (h : sp_Disk_write K vs H Q E) : vs.length = 3 := by
  unfold sp_Disk_write at h
  repeat (obtain ⟨_, h⟩ := h)
  subst_vars
  rfl
theorem len_Disk_barrier {K : PySem.W.Frag} {vs : List V} {H : Hp} {Q : VK} {E : XK} (h : sp_Disk_barrier K vs H Q E) : vs.length = 1 := by
  unfold sp_Disk_barrier at h
  repeat (obtain ⟨_, h⟩ := h)
  subst_vars
  rfl
theorem len_disk_of {K : PySem.W.Frag} {vs : List V} {H : Hp} {Q : VK} {E : XK} (h : sp_disk_of K vs H Q E) : vs.length = 1 := by
  unfold sp_disk_of at h
  repeat (obtain ⟨_, h⟩ := h)
  subst_vars
  rfl
theorem len__law_cell {K : PySem.W.Frag} {vs : List V} {H : Hp} {Q : VK} {E : XK} (h : sp__law_cell K vs H Q E) : vs.length = 2 := by
  unfold sp__law_cell at h
  repeat (obtain ⟨_, h⟩ := h)
  subst_vars
  rfl
theorem len__law_drawn {K : PySem.W.Frag} {vs : List V} {H : Hp} {Q : VK} {E : XK} (h : sp__law_drawn K vs H Q E) : vs.length = 2 := by
  unfold sp__law_drawn at h
  repeat (obtain ⟨_, h⟩ := h)
  subst_vars
  rfl
theorem len__law_word {K : PySem.W.Frag} {p : Addr × Obj} {vs : List V} {H : Hp} {Q : VK} {E : XK} (h : sp__law_word K p vs H Q E) : vs.length = 1 := by
  obtain ⟨d, hd, rfl, _⟩ := h
  rfl
theorem len__law_made {K : PySem.W.Frag} {vs : List V} {H : Hp} {Q : VK} {E : XK} (h : sp__law_made K vs H Q E) : vs.length = 1 := by
  unfold sp__law_made at h
  repeat (obtain ⟨_, h⟩ := h)
  subst_vars
  rfl
theorem len_law {K : PySem.W.Frag} {vs : List V} {H : Hp} {Q : VK} {E : XK} (h : sp_law K vs H Q E) : vs.length = 1 := by
  unfold sp_law at h
  repeat (obtain ⟨_, h⟩ := h)
  subst_vars
  rfl
def Ct_Disk___init__ (P : Program) (w : World) (K : PySem.W.Frag) (mg : Str → Option Value) (base : Heap) : Prop := ∃ fd : FuncData, FnOk P w K mg base (L2.CX P w) 1 (He.ma K (He.ga K "Disk") "__init__") fd ["self", "count"] (sp_Disk___init__ K) ∧ Binds K fd ["self", "count"] [] ∧ PySem.W.keepIn K (.ref (He.ma K (He.ga K "Disk") "__init__")) = true
def Ct_Disk_read (P : Program) (w : World) (K : PySem.W.Frag) (mg : Str → Option Value) (base : Heap) : Prop := ∃ fd : FuncData, FnOk P w K mg base (L2.CX P w) 1 (He.ma K (He.ga K "Disk") "read") fd ["self", "number"] (sp_Disk_read K) ∧ Binds K fd ["self", "number"] [] ∧ PySem.W.keepIn K (.ref (He.ma K (He.ga K "Disk") "read")) = true
def Ct_Disk_write (P : Program) (w : World) (K : PySem.W.Frag) (mg : Str → Option Value) (base : Heap) : Prop := ∃ fd : FuncData, FnOk P w K mg base (L2.CX P w) 1 (He.ma K (He.ga K "Disk") "write") fd ["self", "number", "block"] (sp_Disk_write K) ∧ Binds K fd ["self", "number", "block"] [] ∧ PySem.W.keepIn K (.ref (He.ma K (He.ga K "Disk") "write")) = true
def Ct_Disk_barrier (P : Program) (w : World) (K : PySem.W.Frag) (mg : Str → Option Value) (base : Heap) : Prop := ∃ fd : FuncData, FnOk P w K mg base (L2.CX P w) 1 (He.ma K (He.ga K "Disk") "barrier") fd ["self"] (sp_Disk_barrier K) ∧ Binds K fd ["self"] [] ∧ PySem.W.keepIn K (.ref (He.ma K (He.ga K "Disk") "barrier")) = true
def Ct_disk_of (P : Program) (w : World) (K : PySem.W.Frag) (mg : Str → Option Value) (base : Heap) : Prop := ∃ fd : FuncData, FnOk P w K mg base (L2.CX P w) 3 (He.ga K "disk_of") fd ["blocks"] (sp_disk_of K) ∧ Binds K fd ["blocks"] [] ∧ PySem.W.keepIn K (.ref (He.ga K "disk_of")) = true
def Ct__law_cell (P : Program) (w : World) (K : PySem.W.Frag) (mg : Str → Option Value) (base : Heap) : Prop := ∃ fd : FuncData, FnOk P w K mg base (L2.CX P w) 1 (He.ga K "_law_cell") fd ["_law_script", "_law_k"] (sp__law_cell K) ∧ Binds K fd ["_law_script", "_law_k"] [] ∧ PySem.W.keepIn K (.ref (He.ga K "_law_cell")) = true
def Ct__law_drawn (P : Program) (w : World) (K : PySem.W.Frag) (mg : Str → Option Value) (base : Heap) : Prop := ∃ fd : FuncData, FnOk P w K mg base (L2.CX P w) 1 (He.ga K "_law_drawn") fd ["_law_cell_here", "_law_k"] (sp__law_drawn K) ∧ Binds K fd ["_law_cell_here", "_law_k"] [] ∧ PySem.W.keepIn K (.ref (He.ga K "_law_drawn")) = true
def Ct__law_word (P : Program) (w : World) (K : PySem.W.Frag) (mg : Str → Option Value) (base : Heap) : Prop := ∃ fd : FuncData, FnP P w K mg base 1 (He.ga K "_law_word") fd ["_law_e"] (sp__law_word K) ∧ Binds K fd ["_law_e"] [] ∧ PySem.W.keepIn K (.ref (He.ga K "_law_word")) = true
def Ct__law_made (P : Program) (w : World) (K : PySem.W.Frag) (mg : Str → Option Value) (base : Heap) : Prop := ∃ fd : FuncData, FnOk P w K mg base (L2.CX P w) 3 (He.ga K "_law_made") fd ["_law_count"] (sp__law_made K) ∧ Binds K fd ["_law_count"] [] ∧ PySem.W.keepIn K (.ref (He.ga K "_law_made")) = true
def Ct_law (P : Program) (w : World) (K : PySem.W.Frag) (mg : Str → Option Value) (base : Heap) : Prop := ∃ fd : FuncData, FnOk P w K mg base (L2.CX P w) 4 (He.ga K "law") fd ["_law_script"] (sp_law K) ∧ Binds K fd ["_law_script"] [] ∧ PySem.W.keepIn K (.ref (He.ga K "law")) = true
theorem ok_Disk___init__ {P : Program} {w : World} {K : PySem.W.Frag} {mg : Str → Option Value} {base : Heap} (T : Tx K mg) : Ct_Disk___init__ P w K mg base := by
  obtain ⟨fd, F⟩ := T.d_Disk___init__
  refine ⟨fd, FunD.ok F sc_Disk___init__ (fun vs H Q E h => len_Disk___init__ h) (fun cdv A outer s H vs Q E hr h => ?_), FunD.bindsN F fun _ _ _ _ _ _ us hl => match us, hl with | [_, _], _ => rfl, F.kp⟩
  have nd := sc_Disk___init__.nd
  have hu := hu_of hr
  have tk : Takes (cxOf (L2.CX P w) P w K mg base N_Disk___init__ "Disk.__init__" (defScope s_Disk___init__) (He.ma K (He.ga K "Disk") "__init__") cdv A outer s H E) (WE1 E) := takes_of rfl rfl rfl rfl
  exact ⟨t_Disk___init__ K (WE1 E), asSs (pss_cons (ps_if (pt_not (pt_chain op_le op_le (pe_gint T.i_LEAST) (pv 1) (pe_gint T.i_MOST))) (pss_one (ps_raiseW rfl tk T.e_TooGreat)) pss_nil)
    (pss_cons (ps_fld (pv 0) (pe_op op_rep (pe_lst (pa_cons (pe_op op_repT (pe_tup (pa_cons pe_int pa_nil)) (pe_gint T.i_SIZE)) pa_nil)) (pv 1)) rfl)
    (pss_one (ps_fld (pv 0) (pe_lst pa_nil) rfl)))) rfl, pure_Disk___init__ T.x_Disk h⟩
theorem ok_Disk_read {P : Program} {w : World} {K : PySem.W.Frag} {mg : Str → Option Value} {base : Heap} (T : Tx K mg) : Ct_Disk_read P w K mg base := by
  obtain ⟨fd, F⟩ := T.d_Disk_read
  refine ⟨fd, FunD.ok F sc_Disk_read (fun vs H Q E h => len_Disk_read h) (fun cdv A outer s H vs Q E hr h => ?_), FunD.bindsN F fun _ _ _ _ _ _ us hl => match us, hl with | [_, _], _ => rfl, F.kp⟩
  have nd := sc_Disk_read.nd
  have hu := hu_of hr
  have tk : Takes (cxOf (L2.CX P w) P w K mg base N_Disk_read "Disk.read" (defScope s_Disk_read) (He.ma K (He.ga K "Disk") "read") cdv A outer s H E) (WE1 E) := takes_of rfl rfl rfl rfl
  exact ⟨t_Disk_read K (WE1 E), asSs (pss_one (ps_ret (pe_ix ix_list (pe_fld (pv 0) rfl) (pv 1) (fun _ _ => rfl)))) rfl, pure_Disk_read T.x_Disk h⟩
theorem ok_Disk_write {P : Program} {w : World} {K : PySem.W.Frag} {mg : Str → Option Value} {base : Heap} (T : Tx K mg) : Ct_Disk_write P w K mg base := by
  obtain ⟨fd, F⟩ := T.d_Disk_write
  refine ⟨fd, FunD.ok F sc_Disk_write (fun vs H Q E h => len_Disk_write h) (fun cdv A outer s H vs Q E hr h => ?_), FunD.bindsN F fun _ _ _ _ _ _ us hl => match us, hl with | [_, _, _], _ => rfl, F.kp⟩
  have nd := sc_Disk_write.nd
  have hu := hu_of hr
  have tk : Takes (cxOf (L2.CX P w) P w K mg base N_Disk_write "Disk.write" (defScope s_Disk_write) (He.ma K (He.ga K "Disk") "write") cdv A outer s H E) (WE1 E) := takes_of rfl rfl rfl rfl
  exact ⟨t_Disk_write K (WE1 E), asSs (pss_cons (ps_asg (pv 2) (pg_sub (pe_fld (pv 0) rfl) (pv 1) set_list))
    (pss_one (ps_expr (pe_bm PySem.F.plainAttrs_list PySem.F.slot_list_append PySem.F.type_list_append mt_append (pe_fld (pv 0) rfl) (pa_cons (pe_tup (pa_cons pe_str (pa_cons (pv 1) (pa_cons (pv 2) pa_nil)))) pa_nil))))) rfl, pure_Disk_write T.x_Disk h⟩
theorem ok_Disk_barrier {P : Program} {w : World} {K : PySem.W.Frag} {mg : Str → Option Value} {base : Heap} (T : Tx K mg) : Ct_Disk_barrier P w K mg base := by
  obtain ⟨fd, F⟩ := T.d_Disk_barrier
  refine ⟨fd, FunD.ok F sc_Disk_barrier (fun vs H Q E h => len_Disk_barrier h) (fun cdv A outer s H vs Q E hr h => ?_), FunD.bindsN F fun _ _ _ _ _ _ us hl => match us, hl with | [_], _ => rfl, F.kp⟩
  have nd := sc_Disk_barrier.nd
  have hu := hu_of hr
  have tk : Takes (cxOf (L2.CX P w) P w K mg base N_Disk_barrier "Disk.barrier" (defScope s_Disk_barrier) (He.ma K (He.ga K "Disk") "barrier") cdv A outer s H E) (WE1 E) := takes_of rfl rfl rfl rfl
  exact ⟨t_Disk_barrier K (WE1 E), asSs (pss_one (ps_expr (pe_bm PySem.F.plainAttrs_list PySem.F.slot_list_append PySem.F.type_list_append mt_append (pe_fld (pv 0) rfl) (pa_cons (pe_tup (pa_cons pe_str pa_nil)) pa_nil)))) rfl, pure_Disk_barrier T.x_Disk h⟩
theorem ok_disk_of {P : Program} {w : World} {K : PySem.W.Frag} {mg : Str → Option Value} {base : Heap} (T : Tx K mg) (c_Disk___init__ : Ct_Disk___init__ P w K mg base) : Ct_disk_of P w K mg base := by
  obtain ⟨fd, F⟩ := T.d_disk_of
  obtain ⟨_, G_Disk___init__, b_Disk___init__, k_Disk___init__⟩ := c_Disk___init__
  refine ⟨fd, FunD.ok F sc_disk_of (fun vs H Q E h => len_disk_of h) (fun cdv A outer s H vs Q E hr h => ?_), FunD.bindsN F fun _ _ _ _ _ _ us hl => match us, hl with | [_], _ => rfl, F.kp⟩
  have nd := sc_disk_of.nd
  have hu := hu_of hr
  have tk : Takes (cxOf (L2.CX P w) P w K mg base N_disk_of "disk_of" (defScope s_disk_of) (He.ga K "disk_of") cdv A outer s H E) (WE1 E) := takes_of rfl rfl rfl rfl
  exact ⟨t_disk_of K (WE1 E), asSs (pss_cons (ps_set (i := 1) nd rfl (Or.inl rfl) (pe_makeW T.k_Disk G_Disk___init__ (hr.mono (by decide)) T.g_Disk b_Disk___init__ tk (pa_cons (pe_callB call_lenQn (by rfl) T.b_len (by decide +kernel) (pa_cons (pv 0) pa_nil)) pa_nil)))
    (pss_cons (ps_for (passes_of rfl) rfl (pi_range1 rfl T.b_range (pa_cons (pe_callB call_lenQn (by rfl) T.b_len (by decide +kernel) (pa_cons (pv 0) pa_nil)) pa_nil)) (pg_name (i := 2) nd rfl (Or.inl rfl)) (pss_one (ps_asg (pe_ix ix_list (pv 0) (pv 2) (fun _ _ => rfl)) (pg_sub (pe_fld (pv 1) rfl) (pv 2) set_list))))
    (pss_one (ps_ret (pv 1))))) rfl, pure_disk_of T.x_Disk h⟩
theorem ok__law_cell {P : Program} {w : World} {K : PySem.W.Frag} {mg : Str → Option Value} {base : Heap} (T : Tx K mg) : Ct__law_cell P w K mg base := by
  obtain ⟨fd, F⟩ := T.d__law_cell
  refine ⟨fd, FunD.ok F sc__law_cell (fun vs H Q E h => len__law_cell h) (fun cdv A outer s H vs Q E hr h => ?_), FunD.bindsN F fun _ _ _ _ _ _ us hl => match us, hl with | [_, _], _ => rfl, F.kp⟩
  have nd := sc__law_cell.nd
  have hu := hu_of hr
  have tk : Takes (cxOf (L2.CX P w) P w K mg base N__law_cell "_law_cell" (defScope s__law_cell) (He.ga K "_law_cell") cdv A outer s H E) (WE1 E) := takes_of rfl rfl rfl rfl
  exact ⟨t__law_cell K (WE1 E), asSs (pss_cons (ps_if (pt_cmpR (op_eqD (Room.units hr)) (pv 0) (pe_lst pa_nil) (by rfl)) (pss_one (ps_ret (pe_op op_mul (pv 1) pe_int))) pss_nil)
    (pss_one (ps_ret (pe_op op_add (pe_ix ix_list (pv 0) (pe_op op_mod (pv 1) (pe_callB call_lenQn (by rfl) T.b_len (by decide +kernel) (pa_cons (pv 0) pa_nil))) (fun _ _ => rfl)) (pe_op op_mul (pe_op op_fdiv (pv 1) (pe_callB call_lenQn (by rfl) T.b_len (by decide +kernel) (pa_cons (pv 0) pa_nil))) pe_int))))) rfl, pure__law_cell h⟩
theorem ok__law_drawn {P : Program} {w : World} {K : PySem.W.Frag} {mg : Str → Option Value} {base : Heap} (T : Tx K mg) : Ct__law_drawn P w K mg base := by
  obtain ⟨fd, F⟩ := T.d__law_drawn
  refine ⟨fd, FunD.ok F sc__law_drawn (fun vs H Q E h => len__law_drawn h) (fun cdv A outer s H vs Q E hr h => ?_), FunD.bindsN F fun _ _ _ _ _ _ us hl => match us, hl with | [_, _], _ => rfl, F.kp⟩
  have nd := sc__law_drawn.nd
  have hu := hu_of hr
  have tk : Takes (cxOf (L2.CX P w) P w K mg base N__law_drawn "_law_drawn" (defScope s__law_drawn) (He.ga K "_law_drawn") cdv A outer s H E) (WE1 E) := takes_of rfl rfl rfl rfl
  exact ⟨t__law_drawn K (WE1 E), asSs (pss_cons (ps_set (i := 2) nd rfl (Or.inl rfl) (pe_op op_mod (pe_op op_add (pe_op op_mul (pv 0) pe_int) (pe_op op_mul (pe_op op_add (pv 1) pe_int) pe_int)) pe_int))
    (pss_one (ps_ret (pe_op op_mod (pe_op op_mulW (pv 2) (pv 2)) pe_int)))) rfl, pure__law_drawn h⟩
theorem ok__law_word {P : Program} {w : World} {K : PySem.W.Frag} {mg : Str → Option Value} {base : Heap} (T : Tx K mg) : Ct__law_word P w K mg base := by
  obtain ⟨fd, F⟩ := T.d__law_word
  refine ⟨fd, fn_ofP F sc__law_word (fun p vs H Q E h => len__law_word h) (fun cdv A outer s H vs Q E p hr h => ?_), FunD.bindsN F fun _ _ _ _ _ _ us hl => match us, hl with | [_], _ => rfl, F.kp⟩
  have nd := sc__law_word.nd
  obtain ⟨d, hd, rfl, hz, hf, q⟩ := h
  have xc := T.x10.exc d hd
  have hp1 : p ∈ (cxH (L2.CX P w) P w K mg base N__law_word "_law_word" (defScope s__law_word) (He.ga K "_law_word") cdv A outer s H E p).pn := List.mem_cons_self
  refine ⟨_, pss_cons (ps_set (i := 1) nd rfl (Or.inl rfl) (pe_lst (pa_cons (pe_callB (call_isP xc hz hf hp1) (by rfl) T.b_isinstance (by decide +kernel) (pa_cons (pv 0) (pa_cons (pe_gref T.g_NoThing) pa_nil))) (pa_cons (pe_callB (call_isP xc hz hf hp1) (by rfl) T.b_isinstance (by decide +kernel) (pa_cons (pv 0) (pa_cons (pe_gref T.g_NoDirectory) pa_nil))) (pa_cons (pe_callB (call_isP xc hz hf hp1) (by rfl) T.b_isinstance (by decide +kernel) (pa_cons (pv 0) (pa_cons (pe_gref T.g_BadName) pa_nil))) (pa_cons (pe_callB (call_isP xc hz hf hp1) (by rfl) T.b_isinstance (by decide +kernel) (pa_cons (pv 0) (pa_cons (pe_gref T.g_IsThere) pa_nil))) pa_nil))))))
    (pss_cons (ps_set (i := 1) nd rfl (Or.inl rfl) (pe_op op_cat (pv 1) (pe_lst (pa_cons (pe_callB (call_isP xc hz hf hp1) (by rfl) T.b_isinstance (by decide +kernel) (pa_cons (pv 0) (pa_cons (pe_gref T.g_NoRoom) pa_nil))) (pa_cons (pe_callB (call_isP xc hz hf hp1) (by rfl) T.b_isinstance (by decide +kernel) (pa_cons (pv 0) (pa_cons (pe_gref T.g_NotEmpty) pa_nil))) (pa_cons (pe_callB (call_isP xc hz hf hp1) (by rfl) T.b_isinstance (by decide +kernel) (pa_cons (pv 0) (pa_cons (pe_gref T.g_WrongKind) pa_nil))) pa_nil))))))
    (pss_cons (ps_set (i := 1) nd rfl (Or.inl rfl) (pe_op op_cat (pv 1) (pe_lst (pa_cons (pe_callB (call_isP xc hz hf hp1) (by rfl) T.b_isinstance (by decide +kernel) (pa_cons (pv 0) (pa_cons (pe_gref T.g_TooGreat) pa_nil))) (pa_cons (pe_callB (call_isP xc hz hf hp1) (by rfl) T.b_isinstance (by decide +kernel) (pa_cons (pv 0) (pa_cons (pe_gref T.g_ReadOnly) pa_nil))) (pa_cons (pe_callB (call_isP xc hz hf hp1) (by rfl) T.b_isinstance (by decide +kernel) (pa_cons (pv 0) (pa_cons (pe_gref T.g_NoFiles) pa_nil))) pa_nil))))))
    (pss_cons (ps_set (i := 2) nd rfl (Or.inl rfl) (pe_lst (pa_cons pe_str (pa_cons pe_str (pa_cons pe_str (pa_cons pe_str (pa_cons pe_str (pa_cons pe_str (pa_cons pe_str (pa_cons pe_str (pa_cons pe_str pa_nil)))))))))))
    (pss_cons (ps_if (PW.pt (pw_or (pt_cmpR op_ne (pe_bm PySem.F.plainAttrs_list PySem.F.slot_list_count PySem.F.type_list_count mt_countF (pv 1) (pa_cons pe_bl pa_nil)) pe_int (by rfl)) (pw_or (pt_not (pt_val (pe_callB (call_isP xc hz hf hp1) (by rfl) T.b_isinstance (by decide +kernel) (pa_cons (pv 0) (pa_cons (pe_gref T.g_StillError) pa_nil))))) (pw_or1 (pt_not (pt_val (pe_callB (call_isP xc hz hf hp1) (by rfl) T.b_isinstance (by decide +kernel) (pa_cons (pv 0) (pa_cons (pe_bltn (v := .ty "ValueError") (u := .type "ValueError") (by rfl) T.b_ValueError (by decide +kernel) rfl) pa_nil))))))))) (pss_one (ps_ret pe_str)) pss_nil)
    (pss_one (ps_ret (pe_ix ix_list (pe_op op_cat (pv 2) (pe_lst (pa_cons pe_str pa_nil))) (pe_bm PySem.F.plainAttrs_list PySem.F.slot_list_index PySem.F.type_list_index mt_index (pv 1) (pa_cons pe_bl pa_nil)) (fun _ _ => rfl)))))))), ?_⟩
  exact pure__law_word (E := E) T.x10 hd q
theorem ok__law_made {P : Program} {w : World} {K : PySem.W.Frag} {mg : Str → Option Value} {base : Heap} (T : Tx K mg) (c_Disk___init__ : Ct_Disk___init__ P w K mg base) (c__law_word : Ct__law_word P w K mg base) : Ct__law_made P w K mg base := by
  obtain ⟨fd, F⟩ := T.d__law_made
  obtain ⟨_, G_Disk___init__, b_Disk___init__, k_Disk___init__⟩ := c_Disk___init__
  obtain ⟨_, G__law_word, b__law_word, k__law_word⟩ := c__law_word
  refine ⟨fd, FunD.ok F sc__law_made (fun vs H Q E h => len__law_made h) (fun cdv A outer s H vs Q E hr h => ?_), FunD.bindsN F fun _ _ _ _ _ _ us hl => match us, hl with | [_], _ => rfl, F.kp⟩
  have nd := sc__law_made.nd
  have hu := hu_of hr
  have tk : Takes (cxOf (L2.CX P w) P w K mg base N__law_made "_law_made" (defScope s__law_made) (He.ga K "_law_made") cdv A outer s H E) (WE1 E) := takes_of rfl rfl rfl rfl
  exact ⟨t__law_made K E (WE1 E), asSs (pss_one (ps_try_as (i := 1) (tb := fun W1 => uRet (uCB (cLenQ K) (uCons (uFld K (uMakeW (He.ga K "Disk") (sp_Disk___init__ K) W1 (uCons (tVar 0) uNil)) "blocks") uNil))) (ts := fun a cls d => uRet (uWordS K a cls d (uCons (tVar 1) uNil))) (Wout := (WE1 E)) rfl rfl nd rfl rfl ⟨rfl, by decide, .inl T.g_TooGreat⟩ tk (fun W1 pn1 xe1 tk1 hp1 => asSs (pss_one (ps_ret (pe_callB call_lenQn (by rfl) T.b_len (by decide +kernel) (pa_cons (pe_fld (pe_makeW T.k_Disk G_Disk___init__ (hr.mono (by decide)) T.g_Disk b_Disk___init__ tk1 (pa_cons (pv 0) pa_nil)) rfl) pa_nil)))) rfl) (fun a oe cls d pn hz hf => asSs (pss_one (ps_ret (pe_wordS G__law_word (roomP (hr.mono (by decide)) _) List.mem_cons_self hz hf T.g__law_word k__law_word b__law_word (pa_cons (pv 1) pa_nil)))) rfl))) rfl, pure__law_made T.x10 T.x_Disk h⟩
theorem okf_law {P : Program} {w : World} {K : PySem.W.Frag} {mg : Str → Option Value} {base : Heap} (T : Tx K mg) (c__law_cell : Ct__law_cell P w K mg base) (c__law_made : Ct__law_made P w K mg base) (c_Disk___init__ : Ct_Disk___init__ P w K mg base) (c__law_drawn : Ct__law_drawn P w K mg base) (c_Disk_barrier : Ct_Disk_barrier P w K mg base) (c_Disk_write : Ct_Disk_write P w K mg base) (c_Disk_read : Ct_Disk_read P w K mg base) (c_disk_of : Ct_disk_of P w K mg base) {fd : FuncData} (F : FunD K "law" "law" (defArgs s_law) (defBody s_law) (defScope s_law) [] [] (He.ga K "law") fd) : FnOk P w K mg base (L2.CX P w) 4 (He.ga K "law") fd ["_law_script"] (sp_law K) := by
  obtain ⟨_, G__law_cell, b__law_cell, k__law_cell⟩ := c__law_cell
  obtain ⟨_, G__law_made, b__law_made, k__law_made⟩ := c__law_made
  obtain ⟨_, G_Disk___init__, b_Disk___init__, k_Disk___init__⟩ := c_Disk___init__
  obtain ⟨_, G__law_drawn, b__law_drawn, k__law_drawn⟩ := c__law_drawn
  obtain ⟨_, G_Disk_barrier, b_Disk_barrier, k_Disk_barrier⟩ := c_Disk_barrier
  obtain ⟨_, G_Disk_write, b_Disk_write, k_Disk_write⟩ := c_Disk_write
  obtain ⟨_, G_Disk_read, b_Disk_read, k_Disk_read⟩ := c_Disk_read
  obtain ⟨_, G_disk_of, b_disk_of, k_disk_of⟩ := c_disk_of
  refine FunD.ok F sc_law (fun vs H Q E h => len_law h) (fun cdv A outer s H vs Q E hr h => ?_)
  have nd := sc_law.nd
  have hu := hu_of hr
  have tk : Takes (cxOf (L2.CX P w) P w K mg base N_law "law" (defScope s_law) (He.ga K "law") cdv A outer s H E) (WE1 E) := takes_of rfl rfl rfl rfl
  exact ⟨t_law K (WE1 E), asSs (pss_cons (ps_for (passes_of rfl) rfl (pi_list (pe_lst (pa_cons pe_int (pa_cons pe_int (pa_cons pe_int (pa_cons pe_int (pa_cons pe_int (pa_cons (pe_op op_mod (pe_callW G__law_cell (hr.mono (by decide)) T.g__law_cell k__law_cell b__law_cell tk (pa_cons (pv 0) (pa_cons pe_int pa_nil))) (pe_op op_shl pe_int pe_int)) (pa_cons (pe_op op_add pe_int (pe_op op_mod (pe_callW G__law_cell (hr.mono (by decide)) T.g__law_cell k__law_cell b__law_cell tk (pa_cons (pv 0) (pa_cons pe_int pa_nil))) pe_int)) pa_nil))))))))) (pg_name (i := 1) nd rfl (Or.inl rfl)) (pss_one (ps_if (pt_cmpR (op_neD (Room.units hr)) (pe_callW G__law_made (hr.mono (by decide)) T.g__law_made k__law_made b__law_made tk (pa_cons (pv 1) pa_nil)) (pe_ix ix_list (pe_lst (pa_cons (pv 1) (pa_cons pe_str pa_nil))) (pe_callTy call_intn (by rfl) T.b_int (by decide +kernel) (pa_cons (pe_or (pe_cmpR op_lt (pv 1) pe_int (by rfl)) (pe_one (pe_cmpR op_gt (pv 1) pe_int (by rfl)))) pa_nil)) (fun _ _ => rfl)) (by rfl)) (pss_one (ps_ret pe_bl)) pss_nil)))
    (pss_cons (ps_set (i := 1) nd rfl (Or.inl rfl) (pe_op op_add pe_int (pe_op op_mod (pe_callW G__law_cell (hr.mono (by decide)) T.g__law_cell k__law_cell b__law_cell tk (pa_cons (pv 0) (pa_cons pe_int pa_nil))) pe_int)))
    (pss_cons (ps_set (i := 2) nd rfl (Or.inr rfl) (pe_makeW T.k_Disk G_Disk___init__ (hr.mono (by decide)) T.g_Disk b_Disk___init__ tk (pa_cons (pv 1) pa_nil)))
    (pss_cons (ps_set (i := 3) nd rfl (Or.inl rfl) (pe_op op_rep (pe_lst (pa_cons (pe_callTy call_tuplen (by rfl) T.b_tuple (by decide +kernel) (pa_cons (pe_op op_rep (pe_lst (pa_cons pe_int pa_nil)) pe_int) pa_nil)) pa_nil)) (pv 1)))
    (pss_cons (ps_set (i := 4) nd rfl (Or.inl rfl) (pe_lst pa_nil))
    (pss_cons (ps_if (PW.pt (pw_or (pt_cmpR (op_neD (Room.units hr)) (pe_fld (pv 2) rfl) (pv 3) (by rfl)) (pw_or1 (pt_cmpR (op_neD (Room.units hr)) (pe_fld (pv 2) rfl) (pe_lst pa_nil) (by rfl))))) (pss_one (ps_ret pe_bl)) pss_nil)
    (pss_cons (ps_for (passes_of rfl) rfl (pi_range1 rfl T.b_range (pa_cons (pe_callB (call_max2n rfl) (by rfl) T.b_max (by decide +kernel) (pa_cons pe_int (pa_cons (pe_callB (call_min2n rfl) (by rfl) T.b_min (by decide +kernel) (pa_cons pe_int (pa_cons (pe_callB call_lenQn (by rfl) T.b_len (by decide +kernel) (pa_cons (pv 0) pa_nil)) pa_nil))) pa_nil))) pa_nil)) (pg_name (i := 5) nd rfl (Or.inr rfl)) (pss_cons (ps_set (i := 8) nd rfl (Or.inr rfl) (pe_callW G__law_drawn (hr.mono (by decide)) T.g__law_drawn k__law_drawn b__law_drawn tk (pa_cons (pe_callW G__law_cell (hr.mono (by decide)) T.g__law_cell k__law_cell b__law_cell tk (pa_cons (pv 0) (pa_cons (pv 5) pa_nil))) (pa_cons (pv 5) pa_nil))))
    (pss_cons (ps_if (pt_cmpR op_eq (pe_op op_mod (pv 8) pe_int) pe_int (by rfl)) (pss_cons (ps_expr (pe_methW0 (pv 2) T.x_Disk.c T.m_Disk_barrier G_Disk_barrier (hr.mono (by decide)) b_Disk_barrier tk))
    (pss_cons (ps_expr (pe_bm PySem.F.plainAttrs_list PySem.F.slot_list_append PySem.F.type_list_append mt_append (pv 4) (pa_cons (pe_tup (pa_cons pe_str pa_nil)) pa_nil)))
    (pss_one ps_continue))) pss_nil)
    (pss_cons (ps_set (i := 9) nd rfl (Or.inl rfl) (pe_op op_mod (pe_op op_fdiv (pv 8) pe_int) (pv 1)))
    (pss_cons (ps_set (i := 10) nd rfl (Or.inl rfl) (pe_callTy call_tuplen (by rfl) T.b_tuple (by decide +kernel) (pa_cons (pe_lc (own := [("_law_j", 11)]) (g := gName 11) (tt := tYes) (te := uOp rModI (uOp rAddI (uOp rDivI (tVar 8) (uOp rAddI (tVar 11) (uC (.int 1)))) (uCallW (sp__law_cell K) W0 (uCons (tVar 0) (uCons (tVar 5) uNil)))) (uC (.int 256))) rfl nd (pi_range1 rfl T.b_range (pa_cons pe_int pa_nil)) (blkOk_by (N := N_law) (sc := defScope s_law) (by decide +kernel)) (fun _ _ _ _ _ => pg_name (i := 11) nd rfl (Or.inl rfl)) (fun _ _ _ _ _ => pts_nil) (fun _ _ _ _ _ => asE (pe_op op_mod (pe_op op_add (pe_op op_fdiv (pv 8) (pe_op op_add (pv 11) pe_int)) (pe_callW G__law_cell (hr.mono (by decide)) T.g__law_cell k__law_cell b__law_cell takes0 (pa_cons (pv 0) (pa_cons (pv 5) pa_nil)))) pe_int) rfl)) pa_nil)))
    (pss_cons (ps_expr (pe_methW (pv 2) T.x_Disk.c T.m_Disk_write G_Disk_write (hr.mono (by decide)) b_Disk_write tk (pa_cons (pv 9) (pa_cons (pv 10) pa_nil))))
    (pss_cons (ps_asg (pv 10) (pg_sub (pv 3) (pv 9) set_list))
    (pss_cons (ps_expr (pe_bm PySem.F.plainAttrs_list PySem.F.slot_list_append PySem.F.type_list_append mt_append (pv 4) (pa_cons (pe_tup (pa_cons pe_str (pa_cons (pv 9) (pa_cons (pv 10) pa_nil)))) pa_nil)))
    (pss_one (ps_if (pt_cmpR (op_neD (Room.units hr)) (pe_methW (pv 2) T.x_Disk.c T.m_Disk_read G_Disk_read (hr.mono (by decide)) b_Disk_read tk (pa_cons (pv 9) pa_nil)) (pv 10) (by rfl)) (pss_one (ps_ret pe_bl)) pss_nil))))))))))
    (pss_cons (ps_if (PW.pt (pw_or (pt_cmpR (op_neD (Room.units hr)) (pe_fld (pv 2) rfl) (pv 4) (by rfl)) (pw_or (pt_cmpR (op_neD (Room.units hr)) (pe_fld (pv 2) rfl) (pv 3) (by rfl)) (pw_or1 (pt_cmpR (op_neD (Room.units hr)) (pe_lc (own := [("_law_k", 5)]) (g := gName 5) (tt := tYes) (te := uMethW (He.ga K "Disk") "read" (sp_Disk_read K) W0 (tVar 2) (uCons (tVar 5) uNil)) rfl nd (pi_range1 rfl T.b_range (pa_cons (pv 1) pa_nil)) (blkOk_by (N := N_law) (sc := defScope s_law) (by decide +kernel)) (fun _ _ _ _ _ => pg_name (i := 5) nd rfl (Or.inl rfl)) (fun _ _ _ _ _ => pts_nil) (fun _ _ _ _ _ => asE (pe_methW (pv 2) T.x_Disk.c T.m_Disk_read G_Disk_read (hr.mono (by decide)) b_Disk_read takes0 (pa_cons (pv 5) pa_nil)) rfl)) (pv 3) (by rfl)))))) (pss_one (ps_ret pe_bl)) pss_nil)
    (pss_cons (ps_asg pe_non (pg_sub (pv 3) (pe_op op_mod (pe_callW G__law_cell (hr.mono (by decide)) T.g__law_cell k__law_cell b__law_cell tk (pa_cons (pv 0) (pa_cons pe_int pa_nil))) (pv 1)) set_list))
    (pss_cons (ps_set (i := 6) nd rfl (Or.inl rfl) (pe_callTy call_listn (by rfl) T.b_list (by decide +kernel) (pa_cons (pv 3) pa_nil)))
    (pss_cons (ps_set (i := 7) nd rfl (Or.inl rfl) (pe_callW G_disk_of (hr.mono (by decide)) T.g_disk_of k_disk_of b_disk_of tk (pa_cons (pv 3) pa_nil)))
    (pss_cons (ps_if (PW.pt (pw_or (pt_cmpR (op_neD (Room.units hr)) (pe_fld (pv 7) rfl) (pv 3) (by rfl)) (pw_or (pt_cmpR (op_neD (Room.units hr)) (pe_fld (pv 7) rfl) (pe_lst pa_nil) (by rfl)) (pw_or1 (pt_cmpR op_notNn (pe_methW (pv 7) T.x_Disk.c T.m_Disk_read G_Disk_read (hr.mono (by decide)) b_Disk_read tk (pa_cons (pe_op op_mod (pe_callW G__law_cell (hr.mono (by decide)) T.g__law_cell k__law_cell b__law_cell tk (pa_cons (pv 0) (pa_cons pe_int pa_nil))) (pv 1)) pa_nil)) pe_non (by rfl)))))) (pss_one (ps_ret pe_bl)) pss_nil)
    (pss_cons (ps_expr (pe_methW (pv 7) T.x_Disk.c T.m_Disk_write G_Disk_write (hr.mono (by decide)) b_Disk_write tk (pa_cons pe_int (pa_cons (pe_callTy call_tuplen (by rfl) T.b_tuple (by decide +kernel) (pa_cons (pe_op op_rep (pe_lst (pa_cons pe_int pa_nil)) pe_int) pa_nil)) pa_nil))))
    (pss_cons (ps_asg pe_non (pg_sub (pv 3) pe_int set_list))
    (pss_one (ps_ret (pe_and (pe_cmpR (op_eqD (Room.units hr)) (pe_ix ix_list (pv 6) pe_int (fun _ _ => rfl)) (pe_ix ix_list (pv 3) pe_int (fun _ _ => rfl)) (by rfl)) (pe_and (pe_cmpR (op_eqD (Room.units hr)) (pe_methW (pv 7) T.x_Disk.c T.m_Disk_read G_Disk_read (hr.mono (by decide)) b_Disk_read tk (pa_cons pe_int pa_nil)) (pe_ix ix_list (pv 6) pe_int (fun _ _ => rfl)) (by rfl)) (pe_one (pe_cmpR op_eq (pe_callB call_lenQn (by rfl) T.b_len (by decide +kernel) (pa_cons (pe_fld (pv 7) rfl) pa_nil)) pe_int (by rfl))))))))))))))))))))) rfl, pure_law T.x_Disk h⟩
end SP
set_option Elab.async false
set_option linter.all false
set_option maxRecDepth 100000
set_option maxHeartbeats 0
namespace SP
open PySem PySem.Spec PyProof.Rows L2 L2H
def d_Disk___init__ : He.DefD := ⟨("Disk", some "__init__"), "__init__", "Disk.__init__", defArgs s_Disk___init__, defBody s_Disk___init__, defScope s_Disk___init__, [], []⟩
def d_Disk_read : He.DefD := ⟨("Disk", some "read"), "read", "Disk.read", defArgs s_Disk_read, defBody s_Disk_read, defScope s_Disk_read, [], []⟩
def d_Disk_write : He.DefD := ⟨("Disk", some "write"), "write", "Disk.write", defArgs s_Disk_write, defBody s_Disk_write, defScope s_Disk_write, [], []⟩
def d_Disk_barrier : He.DefD := ⟨("Disk", some "barrier"), "barrier", "Disk.barrier", defArgs s_Disk_barrier, defBody s_Disk_barrier, defScope s_Disk_barrier, [], []⟩
def d_disk_of : He.DefD := ⟨("disk_of", none), "disk_of", "disk_of", defArgs s_disk_of, defBody s_disk_of, defScope s_disk_of, [], []⟩
def d__law_cell : He.DefD := ⟨("_law_cell", none), "_law_cell", "_law_cell", defArgs s__law_cell, defBody s__law_cell, defScope s__law_cell, [], []⟩
def d__law_drawn : He.DefD := ⟨("_law_drawn", none), "_law_drawn", "_law_drawn", defArgs s__law_drawn, defBody s__law_drawn, defScope s__law_drawn, [], []⟩
def d__law_word : He.DefD := ⟨("_law_word", none), "_law_word", "_law_word", defArgs s__law_word, defBody s__law_word, defScope s__law_word, [], []⟩
def d__law_made : He.DefD := ⟨("_law_made", none), "_law_made", "_law_made", defArgs s__law_made, defBody s__law_made, defScope s__law_made, [], []⟩
def d_law : He.DefD := ⟨("law", none), "law", "law", defArgs s_law, defBody s_law, defScope s_law, [], []⟩
def fa0 : List He.Fa := [.glo "StillError", .exc "StillError", .glo "NoThing", .exc "NoThing", .glo "NoDirectory", .exc "NoDirectory", .glo "BadName", .exc "BadName", .glo "IsThere", .exc "IsThere", .glo "NoRoom", .exc "NoRoom", .glo "NotEmpty", .exc "NotEmpty", .glo "WrongKind", .exc "WrongKind", .glo "TooGreat", .exc "TooGreat", .glo "ReadOnly", .exc "ReadOnly"]
def fa1 : List He.Fa := [.glo "NoFiles", .exc "NoFiles", .glo "Disk", .cls "Disk", .noat "Disk" "blocks", .noat "Disk" "log", .mkr "Disk", .meth "Disk" "read", .meth "Disk" "write", .meth "Disk" "barrier", .glo "disk_of", .glo "_law_cell", .glo "_law_drawn", .glo "_law_word", .glo "_law_made", .glo "law", .free "len", .free "any", .free "min", .free "max"]
def fa2 : List He.Fa := [.free "ord", .free "list", .free "tuple", .free "int", .free "range", .free "isinstance", .free "ValueError", .int "SIZE" 64, .int "LEAST" 16, .int "MOST" 256]
def fn0 : List He.DefD := [d_Disk___init__, d_Disk_read, d_Disk_write, d_Disk_barrier, d_disk_of, d__law_cell, d__law_drawn, d__law_word, d__law_made, d_law]
def ch0 : HQ.Chk := ⟨fa0 ++ fa1 ++ fa2, fn0, [], xk⟩
def chs : List HQ.Chk := [ch0]
def names0 : List PySem.Str := ["StillError", "NoThing", "NoDirectory", "BadName", "IsThere", "NoRoom", "NotEmpty", "WrongKind", "TooGreat", "ReadOnly", "NoFiles", "SIZE", "LEAST", "MOST", "Disk", "disk_of", "_law_cell", "_law_drawn", "_law_word", "_law_made"]
def names : List PySem.Str := names0
abbrev R : PySem.W.OpenRow := PySem.W.OpenLaw.row PySem.Challenge.rw_stillpoint_k11_disks
theorem run_l : HQ.RunL R 8000 := by
  intro w os
  kernel_rfl
theorem run_s : HQ.RunS R 8000 (PySem.W.view R.prog [23]) names := by
  intro w os
  kernel_rfl
theorem run_0 : HQ.RunC R 8000 ch0 := by
  intro w os
  kernel_rfl
end SP
set_option Elab.async false
set_option linter.all false
set_option maxRecDepth 100000
set_option maxHeartbeats 0
namespace SP
open PySem PySem.Spec PyProof.Rows L2 L2H
theorem tx_of {w : World} {K : PySem.W.Frag} {h : Heap} {mg : Str → Option Value} (X : K.In h) (G : h.Ns mainGlobals mg) (c0 : ch0.says w h K) : Tx K mg where
  g_StillError := He.glo_ok X G (c0.t.d.fact 0 (f := .glo "StillError") rfl)
  e_StillError := excx X G (c0.t.d.fact 0 (f := .glo "StillError") rfl) (c0.t.d.fact 1 (f := .exc "StillError") rfl)
  g_NoThing := He.glo_ok X G (c0.t.d.fact 2 (f := .glo "NoThing") rfl)
  e_NoThing := excx X G (c0.t.d.fact 2 (f := .glo "NoThing") rfl) (c0.t.d.fact 3 (f := .exc "NoThing") rfl)
  g_NoDirectory := He.glo_ok X G (c0.t.d.fact 4 (f := .glo "NoDirectory") rfl)
  e_NoDirectory := excx X G (c0.t.d.fact 4 (f := .glo "NoDirectory") rfl) (c0.t.d.fact 5 (f := .exc "NoDirectory") rfl)
  g_BadName := He.glo_ok X G (c0.t.d.fact 6 (f := .glo "BadName") rfl)
  e_BadName := excx X G (c0.t.d.fact 6 (f := .glo "BadName") rfl) (c0.t.d.fact 7 (f := .exc "BadName") rfl)
  g_IsThere := He.glo_ok X G (c0.t.d.fact 8 (f := .glo "IsThere") rfl)
  e_IsThere := excx X G (c0.t.d.fact 8 (f := .glo "IsThere") rfl) (c0.t.d.fact 9 (f := .exc "IsThere") rfl)
  g_NoRoom := He.glo_ok X G (c0.t.d.fact 10 (f := .glo "NoRoom") rfl)
  e_NoRoom := excx X G (c0.t.d.fact 10 (f := .glo "NoRoom") rfl) (c0.t.d.fact 11 (f := .exc "NoRoom") rfl)
  g_NotEmpty := He.glo_ok X G (c0.t.d.fact 12 (f := .glo "NotEmpty") rfl)
  e_NotEmpty := excx X G (c0.t.d.fact 12 (f := .glo "NotEmpty") rfl) (c0.t.d.fact 13 (f := .exc "NotEmpty") rfl)
  g_WrongKind := He.glo_ok X G (c0.t.d.fact 14 (f := .glo "WrongKind") rfl)
  e_WrongKind := excx X G (c0.t.d.fact 14 (f := .glo "WrongKind") rfl) (c0.t.d.fact 15 (f := .exc "WrongKind") rfl)
  g_TooGreat := He.glo_ok X G (c0.t.d.fact 16 (f := .glo "TooGreat") rfl)
  e_TooGreat := excx X G (c0.t.d.fact 16 (f := .glo "TooGreat") rfl) (c0.t.d.fact 17 (f := .exc "TooGreat") rfl)
  g_ReadOnly := He.glo_ok X G (c0.t.d.fact 18 (f := .glo "ReadOnly") rfl)
  e_ReadOnly := excx X G (c0.t.d.fact 18 (f := .glo "ReadOnly") rfl) (c0.t.d.fact 19 (f := .exc "ReadOnly") rfl)
  g_NoFiles := He.glo_ok X G (c0.t.d.fact 20 (f := .glo "NoFiles") rfl)
  e_NoFiles := excx X G (c0.t.d.fact 20 (f := .glo "NoFiles") rfl) (c0.t.d.fact 21 (f := .exc "NoFiles") rfl)
  g_Disk := He.glo_ok X G (c0.t.d.fact 22 (f := .glo "Disk") rfl)
  x_Disk := ⟨He.cls_ok (c0.t.d.fact 23 (f := .cls "Disk") rfl), He.noat_ok (c0.t.d.fact 24 (f := .noat "Disk" "blocks") rfl), He.noat_ok (c0.t.d.fact 25 (f := .noat "Disk" "log") rfl)⟩
  k_Disk := He.mkr_ok (c0.t.d.fact 26 (f := .mkr "Disk") rfl)
  d_Disk___init__ := c0.t.d.def_ 0 (d := d_Disk___init__) rfl
  m_Disk_read := He.meth_ok (c0.t.d.fact 27 (f := .meth "Disk" "read") rfl)
  d_Disk_read := c0.t.d.def_ 1 (d := d_Disk_read) rfl
  m_Disk_write := He.meth_ok (c0.t.d.fact 28 (f := .meth "Disk" "write") rfl)
  d_Disk_write := c0.t.d.def_ 2 (d := d_Disk_write) rfl
  m_Disk_barrier := He.meth_ok (c0.t.d.fact 29 (f := .meth "Disk" "barrier") rfl)
  d_Disk_barrier := c0.t.d.def_ 3 (d := d_Disk_barrier) rfl
  g_disk_of := He.glo_ok X G (c0.t.d.fact 30 (f := .glo "disk_of") rfl)
  d_disk_of := c0.t.d.def_ 4 (d := d_disk_of) rfl
  g__law_cell := He.glo_ok X G (c0.t.d.fact 31 (f := .glo "_law_cell") rfl)
  d__law_cell := c0.t.d.def_ 5 (d := d__law_cell) rfl
  g__law_drawn := He.glo_ok X G (c0.t.d.fact 32 (f := .glo "_law_drawn") rfl)
  d__law_drawn := c0.t.d.def_ 6 (d := d__law_drawn) rfl
  g__law_word := He.glo_ok X G (c0.t.d.fact 33 (f := .glo "_law_word") rfl)
  d__law_word := c0.t.d.def_ 7 (d := d__law_word) rfl
  g__law_made := He.glo_ok X G (c0.t.d.fact 34 (f := .glo "_law_made") rfl)
  d__law_made := c0.t.d.def_ 8 (d := d__law_made) rfl
  g_law := He.glo_ok X G (c0.t.d.fact 35 (f := .glo "law") rfl)
  d_law := c0.t.d.def_ 9 (d := d_law) rfl
  b_len := He.free_ok X G (c0.t.d.fact 36 (f := .free "len") rfl)
  b_any := He.free_ok X G (c0.t.d.fact 37 (f := .free "any") rfl)
  b_min := He.free_ok X G (c0.t.d.fact 38 (f := .free "min") rfl)
  b_max := He.free_ok X G (c0.t.d.fact 39 (f := .free "max") rfl)
  b_ord := He.free_ok X G (c0.t.d.fact 40 (f := .free "ord") rfl)
  b_list := He.free_ok X G (c0.t.d.fact 41 (f := .free "list") rfl)
  b_tuple := He.free_ok X G (c0.t.d.fact 42 (f := .free "tuple") rfl)
  b_int := He.free_ok X G (c0.t.d.fact 43 (f := .free "int") rfl)
  b_range := He.free_ok X G (c0.t.d.fact 44 (f := .free "range") rfl)
  b_isinstance := He.free_ok X G (c0.t.d.fact 45 (f := .free "isinstance") rfl)
  b_ValueError := He.free_ok X G (c0.t.d.fact 46 (f := .free "ValueError") rfl)
  i_SIZE := He.int_ok X G (c0.t.d.fact 47 (f := .int "SIZE" 64) rfl)
  i_LEAST := He.int_ok X G (c0.t.d.fact 48 (f := .int "LEAST" 16) rfl)
  i_MOST := He.int_ok X G (c0.t.d.fact 49 (f := .int "MOST" 256) rfl)
  x10 := xk_ok c0.more
theorem all_law {P : Program} {w : World} {K : PySem.W.Frag} {mg : Str → Option Value} {base : Heap} (T : Tx K mg) {fd : FuncData} (F : FunD K "law" "law" (defArgs s_law) (defBody s_law) (defScope s_law) [] [] (He.ga K "law") fd) : FnOk P w K mg base (L2.CX P w) 4 (He.ga K "law") fd ["_law_script"] (sp_law K) := by
  have c__law_cell : Ct__law_cell P w K mg base := ok__law_cell T
  have c_Disk___init__ : Ct_Disk___init__ P w K mg base := ok_Disk___init__ T
  have c__law_word : Ct__law_word P w K mg base := ok__law_word T
  have c__law_made : Ct__law_made P w K mg base := ok__law_made T c_Disk___init__ c__law_word
  have c__law_drawn : Ct__law_drawn P w K mg base := ok__law_drawn T
  have c_Disk_barrier : Ct_Disk_barrier P w K mg base := ok_Disk_barrier T
  have c_Disk_write : Ct_Disk_write P w K mg base := ok_Disk_write T
  have c_Disk_read : Ct_Disk_read P w K mg base := ok_Disk_read T
  have c_disk_of : Ct_disk_of P w K mg base := ok_disk_of T c_Disk___init__
  exact okf_law T c__law_cell c__law_made c_Disk___init__ c__law_drawn c_Disk_barrier c_Disk_write c_Disk_read c_disk_of F
end SP
open PySem PySem.W PySem.Calls PyProof.Rows
theorem PySem.Challenge.cw_stillpoint_k11_disks_holds : PySem.Challenge.rw_stillpoint_k11_disks.Holds := by
  w_on; o_law
  refine HandSHeadRun.head_any (r := OpenLaw.row PySem.Challenge.rw_stillpoint_k11_disks) (q := view (OpenLaw.row PySem.Challenge.rw_stillpoint_k11_disks).prog [23]) (H := HQ.hookQ SP.chs) (ob := HQ.obQ SP.chs) (M := 8000) (loose := SP.names) (d := HandSHeadRun.topDef (OpenLaw.row PySem.Challenge.rw_stillpoint_k11_disks).prog 23) (kwd := []) (HQ.obQ_eq SP.chs)
    (by kernel_rfl) (fun s => by kernel_rfl) (HQ.join SP.run_l SP.run_s ?hr) (by kernel_rfl) (by kernel_rfl) (by kernel_rfl) (by rfl) (by first | assumption | decide +kernel) (by decide +kernel) ⟨rfl, rfl, rfl, rfl, rfl, by decide +kernel⟩ ?hw ?hc
  case hr =>
    intro x hx
    simp only [SP.chs, List.mem_cons, List.not_mem_nil, or_false] at hx
    rcases hx with rfl
    · exact SP.run_0
  case hw => w_witness2
  case hc =>
    refine LamX.walk_ofTsE (l := PySem.Challenge.rw_stillpoint_k11_disks) (n := 63) (k := 4) (x := "_law_script") (CX := L2.CX (PySem.Challenge.rw_stillpoint_k11_disks).prog) rfl (by decide) (by kernel_rfl) ⟨rfl, by decide, by decide⟩ ?F ?X
    case X =>
      rintro w H s e s' ⟨_, _, _, _, _, _, _, _, _, _, _, _, z⟩
      exact z
    case F =>
      intro w mg fa h Y G hmg0
      obtain ⟨K, KX, c⟩ := Y
      have hmg : mg ("law" : PySem.Str) = some (.ref fa) := by
        have e : (HandSHeadRun.topDef (OpenLaw.row PySem.Challenge.rw_stillpoint_k11_disks).prog 23).name = ("law" : PySem.Str) := by kernel_rfl
        rw [← e]
        exact hmg0
      have T : SP.Tx K mg := SP.tx_of KX G (c _ (by simp [SP.chs]))
      have e := hmg.symm.trans T.g_law
      cases e
      obtain ⟨fd, F⟩ := T.d_law
      have b := L2.FunD.bindsA (ps := ["_law_script"]) F fun _ _ _ _ _ _ us hl => match us, hl with | [_], _ => rfl
      exact ⟨K, KX, fd, [], SP.sp_law K, fun _ z => (List.not_mem_nil z).elim, fun _ z => (List.not_mem_nil z).elim, fun _ z => (List.not_mem_nil z).elim, fun s v => b s [v] rfl, fun H a ns hl hb _ hS => ⟨a, ns, rfl, hS, hl, fun _ => rfl⟩, fun base _ _ _ => SP.all_law T F⟩
