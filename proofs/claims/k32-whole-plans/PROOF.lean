import PyProof.Rows.All
import Wide.All
import OpenK.AllK
import Wide.FinOn
import HandS.ForMost
import HandS.Defaults
import HandS.TupAny
import HandS.DictComp
import HandS.SortInts
import HandS.IsInst
import HandS.More
import HandS.HeadHook1
import HandS.Style
import KE.KStateDown
import Lean
import HandS.Head0
import HandS.Head1
import HandS.Head2
import HandS.HeadEnd
import HandS.HeadHook2
import PySem.Challenge.RW_espalier_k32_whole_plans_that_commute
section
set_option Elab.async false
set_option linter.all false
set_option maxRecDepth 100000
set_option maxHeartbeats 4000000
/-! data, what stands for it, environments -/
namespace K32
open PySem PySem.Spec PyProof.Rows L2

/-- data: immutable values, lists and dicts that no longer change; scr: the law's script -/
inductive D where
  | non | bl (b : Bool) | int (i : Int) | str (x : Str) | tup (ds : List D) | lst (ds : List D) | dic (es : List (Int × D)) | scr (ns : List Int)

mutual
inductive Rep (K : PySem.W.Frag) (H : Hp) : V → D → Prop
  | non : Rep K H .non .non
  | bl (b : Bool) : Rep K H (.bl b) (.bl b)
  | int (i : Int) : Rep K H (.int i) (.int i)
  | str (x : Str) : Rep K H (.str x) (.str x)
  | tup {a : Addr} {xs : List V} {ds : List D} : H a = some (.tup xs) → RepL K H xs ds → Rep K H (.ref a) (.tup ds)
  | lst {a : Addr} {xs : List V} {ds : List D} : H a = some (.lst xs) → RepL K H xs ds → Rep K H (.ref a) (.lst ds)
  | dic {a : Addr} {kvs : List (Key × V)} {es : List (Int × D)} : Rd H a (.dK kvs) → RepD K H kvs es → Rep K H (.ref a) (.dic es)
  | scr {a : Addr} {ns : List Int} : SqL K H a (ns.map V.int) → Rep K H (.ref a) (.scr ns)
inductive RepL (K : PySem.W.Frag) (H : Hp) : List V → List D → Prop
  | nil : RepL K H [] []
  | cons {v : V} {vs : List V} {d : D} {ds : List D} : Rep K H v d → RepL K H vs ds → RepL K H (v :: vs) (d :: ds)
inductive RepD (K : PySem.W.Frag) (H : Hp) : List (Key × V) → List (Int × D) → Prop
  | nil : RepD K H [] []
  | cons {k : Int} {v : V} {kvs : List (Key × V)} {d : D} {es : List (Int × D)} : Rep K H v d → RepD K H kvs es → RepD K H ((.inl k, v) :: kvs) ((k, d) :: es)
end

/-- what data leans on is kept -/
structure Mo (H H' : Hp) : Prop where
  tup : ∀ a xs, H a = some (.tup xs) → H' a = some (.tup xs)
  lst : ∀ a xs, H a = some (.lst xs) → H' a = some (.lst xs)
  dic : ∀ a kvs, Rd H a (.dK kvs) → Rd H' a (.dK kvs)
  seq : ∀ a xs, Rd H a (.lst xs) → Rd H' a (.lst xs)
theorem Mo.of {H H' : Hp} (s : Same H H') : Mo H H' :=
  ⟨fun a xs h => s a _ h, fun a xs h => s a _ h, fun a xs h => h.elim (fun h => .inl (s a _ h)) fun ⟨o, h⟩ => .inr ⟨o, s a _ h⟩, fun a xs h => h.elim (fun h => .inl (s a _ h)) fun ⟨o, h⟩ => .inr ⟨o, s a _ h⟩⟩
section
variable {K : PySem.W.Frag} {H H' : Hp}
mutual
theorem Rep.mo (m : Mo H H') : ∀ {d : D} {v : V}, Rep K H v d → Rep K H' v d
  | .non, _, h => by cases h; exact .non
  | .bl b, _, h => by cases h; exact .bl b
  | .int i, _, h => by cases h; exact .int i
  | .str x, _, h => by cases h; exact .str x
  | .tup ds, _, h => by cases h with | tup e r => exact .tup (m.tup _ _ e) (RepL.mo m r)
  | .lst ds, _, h => by cases h with | lst e r => exact .lst (m.lst _ _ e) (RepL.mo m r)
  | .dic es, _, h => by cases h with | dic e r => exact .dic (m.dic _ _ e) (RepD.mo m r)
  | .scr ns, _, h => by
    cases h with
    | scr e => exact .scr (e.elim (fun q => .inl (m.seq _ _ q)) .inr)
theorem RepL.mo (m : Mo H H') : ∀ {ds : List D} {vs : List V}, RepL K H vs ds → RepL K H' vs ds
  | [], _, h => by cases h; exact .nil
  | d :: ds, _, h => by cases h with | cons r t => exact .cons (Rep.mo m r) (RepL.mo m t)
theorem RepD.mo (m : Mo H H') : ∀ {es : List (Int × D)} {kvs : List (Key × V)}, RepD K H kvs es → RepD K H' kvs es
  | [], _, h => by cases h; exact .nil
  | (k, d) :: es, _, h => by cases h with | cons r t => exact .cons (Rep.mo m r) (RepD.mo m t)
end
theorem Rep.same (s : Same H H') {d : D} {v : V} (h : Rep K H v d) : Rep K H' v d := h.mo (.of s)
theorem RepL.same (s : Same H H') {ds : List D} {vs : List V} (h : RepL K H vs ds) : RepL K H' vs ds := h.mo (.of s)
theorem RepD.same (s : Same H H') {es : List (Int × D)} {kvs : List (Key × V)} (h : RepD K H kvs es) : RepD K H' kvs es := h.mo (.of s)

theorem RepL.length : ∀ {ds : List D} {vs : List V}, RepL K H vs ds → vs.length = ds.length
  | [], _, h => by cases h; rfl
  | d :: ds, _, h => by cases h with | cons r t => simp [RepL.length t]
theorem RepL.get : ∀ {ds : List D} {vs : List V} {i : Nat} {d : D}, RepL K H vs ds → ds[i]? = some d → ∃ v, vs[i]? = some v ∧ Rep K H v d
  | [], _, i, _, h, e => by simp at e
  | d :: ds, _, 0, _, h, e => by
    cases h with
    | cons r t =>
      simp at e
      subst e
      exact ⟨_, rfl, r⟩
  | d :: ds, _, i + 1, _, h, e => by
    cases h with
    | cons r t =>
      obtain ⟨v, e1, q⟩ := RepL.get t (by simpa using e)
      exact ⟨v, by simpa using e1, q⟩
theorem RepL.getV : ∀ {ds : List D} {vs : List V} {i : Nat} {v : V}, RepL K H vs ds → vs[i]? = some v → ∃ d, ds[i]? = some d ∧ Rep K H v d
  | [], _, i, _, h, e => by cases h; simp at e
  | d :: ds, _, 0, _, h, e => by
    cases h with
    | cons r t =>
      simp at e
      subst e
      exact ⟨_, rfl, r⟩
  | d :: ds, _, i + 1, _, h, e => by
    cases h with
    | cons r t =>
      obtain ⟨v, e1, q⟩ := RepL.getV t (by simpa using e)
      exact ⟨v, by simpa using e1, q⟩
theorem RepL.append : ∀ {ds es : List D} {vs ws : List V}, RepL K H vs ds → RepL K H ws es → RepL K H (vs ++ ws) (ds ++ es)
  | [], _, _, _, h, g => by cases h; exact g
  | d :: ds, _, _, _, h, g => by cases h with | cons r t => exact .cons r (RepL.append t g)
theorem RepL.snoc {ds : List D} {vs : List V} {v : V} {d : D} (h : RepL K H vs ds) (r : Rep K H v d) : RepL K H (vs ++ [v]) (ds ++ [d]) := h.append (.cons r .nil)
theorem RepL.take : ∀ {ds : List D} {vs : List V} (n : Nat), RepL K H vs ds → RepL K H (vs.take n) (ds.take n)
  | _, _, 0, _ => by simp; exact .nil
  | [], _, n + 1, h => by cases h; simp; exact .nil
  | d :: ds, _, n + 1, h => by cases h with | cons r t => exact .cons r (RepL.take n t)
theorem RepL.drop : ∀ {ds : List D} {vs : List V} (n : Nat), RepL K H vs ds → RepL K H (vs.drop n) (ds.drop n)
  | _, _, 0, h => by simpa using h
  | [], _, n + 1, h => by cases h; simp; exact .nil
  | d :: ds, _, n + 1, h => by cases h with | cons r t => exact RepL.drop n t
theorem RepL.ints : ∀ {ns : List Int}, RepL K H (ns.map V.int) (ns.map D.int)
  | [] => .nil
  | n :: ns => .cons (.int n) RepL.ints
theorem RepL.ints_inv : ∀ {ns : List Int} {vs : List V}, RepL K H vs (ns.map D.int) → vs = ns.map V.int
  | [], _, h => by cases h; rfl
  | n :: ns, _, h => by
    cases h with
    | cons r t =>
      cases r
      rw [RepL.ints_inv t]
      rfl
theorem RepL.bls_inv : ∀ {bs : List Bool} {vs : List V}, RepL K H vs (bs.map D.bl) → vs = bs.map V.bl
  | [], _, h => by cases h; rfl
  | n :: ns, _, h => by
    cases h with
    | cons r t =>
      cases r
      rw [RepL.bls_inv t]
      rfl
end

/-! dicts of data -/
def dLook (es : List (Int × D)) (k : Int) : Option D := (es.find? fun e => decide (e.1 = k)).map (·.2)
def dPut (es : List (Int × D)) (k : Int) (d : D) : List (Int × D) := if es.any (fun e => decide (e.1 = k)) then es.map (fun e => if e.1 = k then (k, d) else e) else es ++ [(k, d)]
def dDrop (es : List (Int × D)) (k : Int) : List (Int × D) := es.filter fun e => decide (e.1 ≠ k)
section
variable {K : PySem.W.Frag} {H : Hp}
theorem RepD.length : ∀ {es : List (Int × D)} {kvs : List (Key × V)}, RepD K H kvs es → kvs.length = es.length
  | [], _, h => by cases h; rfl
  | e :: es, _, h => by cases h with | cons r t => simp [RepD.length t]
theorem RepD.look : ∀ {es : List (Int × D)} {kvs : List (Key × V)} (k : Int), RepD K H kvs es →
    (∀ d, dLook es k = some d → ∃ v, valV kvs (.inl k) = some v ∧ Rep K H v d) ∧ (dLook es k = none → valV kvs (.inl k) = none)
  | [], _, k, h => by
    cases h
    exact ⟨fun d e => by simp [dLook] at e, fun _ => rfl⟩
  | (j, x) :: es, _, k, h => by
    cases h with
    | @cons _ v kvs _ _ r t =>
      obtain ⟨i1, i2⟩ := RepD.look k t
      by_cases q : j = k
      · subst q
        refine ⟨fun d e => ?_, fun e => ?_⟩
        · simp [dLook] at e
          subst e
          exact ⟨v, valV_pos rfl, r⟩
        · simp [dLook] at e
      · have q' : ¬ ((Sum.inl j : Key) = .inl k) := fun z => q (Sum.inl.inj z)
        refine ⟨fun d e => ?_, fun e => ?_⟩
        · rw [valV_neg (by exact q')]
          exact i1 d (by simpa [dLook, q] using e)
        · rw [valV_neg (by exact q')]
          exact i2 (by simpa [dLook, q] using e)
theorem RepD.any : ∀ {es : List (Int × D)} {kvs : List (Key × V)} (k : Int), RepD K H kvs es → (kvs.any fun kv => decide (kv.1 = Sum.inl k)) = es.any fun e => decide (e.1 = k)
  | [], _, k, h => by cases h; rfl
  | (j, x) :: es, _, k, h => by
    cases h with
    | cons r t =>
      simp only [List.any_cons, RepD.any k t]
      congr 1
      by_cases q : j = k
      · simp [q]
      · simp [q]
theorem RepD.map : ∀ {es : List (Int × D)} {kvs : List (Key × V)} {k : Int} {v : V} {d : D}, RepD K H kvs es → Rep K H v d →
    RepD K H (kvs.map fun kv => if kv.1 = Sum.inl k then (kv.1, v) else kv) (es.map fun e => if e.1 = k then (k, d) else e)
  | [], _, k, _, _, h, _ => by cases h; exact .nil
  | (j, x) :: es, _, k, v, d, h, r => by
    cases h with
    | cons q t =>
      have ih := RepD.map (k := k) t r
      by_cases z : j = k
      · subst z
        simpa using RepD.cons r ih
      · simpa [z] using RepD.cons q ih
theorem RepD.append : ∀ {es fs : List (Int × D)} {kvs lvs : List (Key × V)}, RepD K H kvs es → RepD K H lvs fs → RepD K H (kvs ++ lvs) (es ++ fs)
  | [], _, _, _, h, g => by cases h; exact g
  | (j, x) :: es, _, _, _, h, g => by cases h with | cons r t => exact .cons r (RepD.append t g)
theorem RepD.put {es : List (Int × D)} {kvs : List (Key × V)} {k : Int} {v : V} {d : D} (h : RepD K H kvs es) (r : Rep K H v d) : RepD K H (putK kvs (.inl k) v) (dPut es k d) := by
  unfold putK dPut
  rw [h.any k]
  split
  · exact h.map r
  · exact h.append (.cons r .nil)
theorem RepD.drop : ∀ {es : List (Int × D)} {kvs : List (Key × V)} (k : Int), RepD K H kvs es → RepD K H (dropK kvs (.inl k)) (dDrop es k)
  | [], _, k, h => by cases h; exact .nil
  | (j, x) :: es, _, k, h => by
    cases h with
    | cons q t =>
      have ih := RepD.drop k t
      by_cases z : j = k
      · subst z
        simpa [dropK, dDrop] using ih
      · simpa [dropK, dDrop, z] using RepD.cons q ih
theorem RepD.keys : ∀ {es : List (Int × D)} {kvs : List (Key × V)}, RepD K H kvs es → kvs.map (fun kv => kV kv.1) = es.map fun e => V.int e.1
  | [], _, h => by cases h; rfl
  | (j, x) :: es, _, h => by
    cases h with
    | cons q t =>
      simp only [List.map_cons, RepD.keys t]
      rfl
theorem RepD.get : ∀ {es : List (Int × D)} {kvs : List (Key × V)} {i : Nat} {kv : Key × V}, RepD K H kvs es → kvs[i]? = some kv → ∃ e, es[i]? = some e ∧ kv.1 = .inl e.1 ∧ Rep K H kv.2 e.2
  | [], _, i, _, h, e => by cases h; simp at e
  | (j, x) :: es, _, 0, _, h, e => by
    cases h with
    | cons r t =>
      simp at e
      subst e
      exact ⟨_, rfl, rfl, r⟩
  | (j, x) :: es, _, i + 1, _, h, e => by
    cases h with
    | cons r t =>
      obtain ⟨v, e1, q⟩ := RepD.get t (by simpa using e)
      exact ⟨v, by simpa using e1, q⟩
end

/-! ### the Draft's fields, what a name stands for -/
structure Dr where
  path : D
  sibs : D
  recs : List (Int × D)
  adrs : List (Int × D)
  fresh : Int
/-- fz: data; ol, od: a list, a dict of one's own (it may change); ob: a Draft -/
inductive Sl where
  | fz (d : D) | ol (ds : List D) | od (es : List (Int × D)) | ob (st : Dr)
abbrev En := List (Option Sl)
def drC (K : PySem.W.Frag) : Addr := He.ga K "Draft"
def drF (vp vs : V) (l1 l2 : Addr) (n : Int) : List (Str × V) := [("path", vp), ("siblings", vs), ("records", .ref l1), ("addresses", .ref l2), ("fresh", .int n)]
/-- the slot's value stands for s; own: the addresses that are its own -/
def SlR (K : PySem.W.Frag) (F H : Hp) (v : V) (own : List Addr) : Sl → Prop
  | .fz d => own = [] ∧ Rep K F v d
  | .ol ds => ∃ l xs, v = .ref l ∧ own = [l] ∧ Rd H l (.lst xs) ∧ RepL K F xs ds
  | .od es => ∃ l kvs, v = .ref l ∧ own = [l] ∧ Rd H l (.dK kvs) ∧ RepD K F kvs es
  | .ob st => ∃ p dx vp vs l1 l2 k1 k2, v = .ref p ∧ own = [p, l1, l2] ∧ p ≠ l1 ∧ p ≠ l2 ∧ l1 ≠ l2 ∧ H p = some (.ins (drC K) dx (drF vp vs l1 l2 st.fresh)) ∧ Rep K F vp st.path ∧ Rep K F vs st.sibs ∧
      Rd H l1 (.dK k1) ∧ RepD K F k1 st.recs ∧ Rd H l2 (.dK k2) ∧ RepD K F k2 st.adrs

/-- from (F, H) to (F', H'): all is kept, new data leans on what was kept or is new -/
structure Stp (F H F' H' : Hp) : Prop where
  ff : Same F F'
  hh : Same H H'
  fh : Same F' H'
  nw : ∀ a, H a ≠ none → F a = none → F' a = none
  nf : (∀ a o kvs, F a ≠ some (.frz o (.dK kvs))) → ∀ a o kvs, F' a ≠ some (.frz o (.dK kvs))
theorem Stp.refl {F H : Hp} (s : Same F H) : Stp F H F H := ⟨.refl _, .refl _, s, fun _ _ h => h, fun h => h⟩
theorem Stp.trans {F H F1 H1 F2 H2 : Hp} (a : Stp F H F1 H1) (b : Stp F1 H1 F2 H2) : Stp F H F2 H2 :=
  ⟨a.ff.trans b.ff, a.hh.trans b.hh, b.fh, fun x h1 h2 => b.nw x (fun e => h1 (a.hh.free e)) (a.nw x h1 h2), fun h => b.nf (a.nf h)⟩
theorem same_new {H : Hp} {p : Addr} {o : HO} (h : H p = none) : Same H (upd H p o) := fun b u e => by rw [upd_ne (ne_of_none e h)]; exact e
/-- a new object that is data at once -/
theorem Stp.new {F H : Hp} {p : Addr} {o : HO} (s : Same F H) (h : H p = none) (ho : ∀ a u, o ≠ .frz a u) : Stp F H (upd F p o) (upd H p o) := by
  refine ⟨same_new (s.free h), same_new h, fun b u e => ?_, fun a h1 h2 => ?_, fun n a u kvs e => ?_⟩
  · by_cases q : b = p
    · subst q
      rw [upd_same] at e ⊢
      exact e
    · rw [upd_ne q] at e ⊢
      exact s b u e
  · rw [upd_ne (fun q => h1 (by rw [q]; exact h))]
    exact h2
  · by_cases q : a = p
    · subst q
      rw [upd_same] at e
      exact ho _ _ (Option.some.inj e)
    · rw [upd_ne q] at e
      exact n a u kvs e
/-- a new object that is one's own -/
theorem Stp.own {F H : Hp} {p : Addr} {o : HO} (s : Same F H) (h : H p = none) : Stp F H F (upd H p o) :=
  ⟨.refl _, same_new h, s.trans (same_new h), fun _ _ h => h, fun h => h⟩

abbrev Om := Nat → List Addr
/-- the names' values stand for ρ; b: nothing is locked -/
structure EnR (K : PySem.W.Frag) (b : Bool) (F : Hp) (σ : L2.St) (H : Hp) (ρ : En) (om : Om) : Prop where
  sub : Same F H
  len : σ.length = ρ.length
  sl : ∀ i s, ρ[i]? = some (some s) → ∃ v, σ[i]? = some (some v) ∧ SlR K F H v (om i) s
  fr : ∀ i a, a ∈ om i → F a = none
  th : ∀ i a, a ∈ om i → H a ≠ none
  nf : b = true → (∀ a o kvs, F a ≠ some (.frz o (.dK kvs))) ∧ ∀ i a, a ∈ om i → ∀ o u, H a ≠ some (.frz o u)
theorem rd_same {H H' : Hp} (s : Same H H') {a : Addr} {u : HO} (h : Rd H a u) : Rd H' a u := h.elim (fun h => .inl (s a _ h)) fun ⟨o, h⟩ => .inr ⟨o, s a _ h⟩
theorem SlR.step {K : PySem.W.Frag} {F H F' H' : Hp} (t : Same F F') (t' : Same H H') {v : V} {own : List Addr} : ∀ {s : Sl}, SlR K F H v own s → SlR K F' H' v own s
  | .fz d, ⟨e, h⟩ => ⟨e, h.same t⟩
  | .ol ds, ⟨l, xs, e, e2, h, r⟩ => ⟨l, xs, e, e2, rd_same t' h, r.same t⟩
  | .od ds, ⟨l, xs, e, e2, h, r⟩ => ⟨l, xs, e, e2, rd_same t' h, r.same t⟩
  | .ob st, ⟨p, dx, vp, vs, l1, l2, k1, k2, e, e2, n1, n2, n3, hp, r1, r2, h1, r3, h2, r4⟩ =>
    ⟨p, dx, vp, vs, l1, l2, k1, k2, e, e2, n1, n2, n3, t' _ _ hp, r1.same t, r2.same t, rd_same t' h1, r3.same t, rd_same t' h2, r4.same t⟩
theorem EnR.step {K : PySem.W.Frag} {b : Bool} {F H F' H' : Hp} {σ : L2.St} {ρ : En} {om : Om} (E : EnR K b F σ H ρ om) (t : Stp F H F' H') : EnR K b F' σ H' ρ om where
  sub := t.fh
  len := E.len
  sl := fun i s e => let ⟨v, e1, h⟩ := E.sl i s e; ⟨v, e1, h.step t.ff t.hh⟩
  fr := fun i a h => t.nw a (E.th i a h) (E.fr i a h)
  th := fun i a h q => E.th i a h (t.hh.free q)
  nf := fun hb => ⟨t.nf (E.nf hb).1, fun i a h o u q => by
    cases e : H a with
    | none => exact E.th i a h e
    | some w =>
      have q2 := t.hh a w e
      rw [q] at q2
      cases q2
      exact (E.nf hb).2 i a h o u e⟩

/-! ### readings of data -/
abbrev FD := En → Option D
def tD (K : PySem.W.Frag) (b : Bool) (f : FD) : TE := fun σ H Q => ∃ F ρ om d, EnR K b F σ H ρ om ∧ f ρ = some d ∧ ∀ v F' H', Stp F H F' H' → Rep K F' v d → Q v H'
/-- a thing that is read at once: its items are data, itself need not be -/
def RepO (K : PySem.W.Frag) (F H : Hp) (v : V) : D → Prop
  | .lst ds => ∃ l xs, v = .ref l ∧ Rd H l (.lst xs) ∧ RepL K F xs ds
  | .dic es => ∃ l kvs, v = .ref l ∧ Rd H l (.dK kvs) ∧ RepD K F kvs es
  | d => Rep K F v d
theorem Rep.o {K : PySem.W.Frag} {F H : Hp} (s : Same F H) {v : V} : ∀ {d : D}, Rep K F v d → RepO K F H v d
  | .non, h => h
  | .bl _, h => h
  | .int _, h => h
  | .str _, h => h
  | .tup _, h => h
  | .scr _, h => h
  | .lst ds, h => by cases h with | lst e r => exact ⟨_, _, rfl, .inl (s _ _ e), r⟩
  | .dic ds, h => by cases h with | dic e r => exact ⟨_, _, rfl, rd_same s e, r⟩
def tC (K : PySem.W.Frag) (b : Bool) (f : FD) : TE := fun σ H Q => ∃ F ρ om d, EnR K b F σ H ρ om ∧ f ρ = some d ∧ ∀ v F' H', Stp F H F' H' → RepO K F' H' v d → Q v H'
def tT (K : PySem.W.Frag) (b : Bool) (f : En → Option Bool) : TT := fun σ H Q => ∃ F ρ om k, EnR K b F σ H ρ om ∧ f ρ = some k ∧ ∀ F' H', Stp F H F' H' → Q k H'
def tA (K : PySem.W.Frag) (b : Bool) (f : En → Option (List D)) : TA := fun σ H Q => ∃ F ρ om ds, EnR K b F σ H ρ om ∧ f ρ = some ds ∧ ∀ vs F' H', Stp F H F' H' → RepL K F' vs ds → Q vs H'

abbrev DE (X : Cx) (b : Bool) (e : Expr) (f : FD) : Prop := PE X e (tD X.K b f)
abbrev DC (X : Cx) (b : Bool) (e : Expr) (f : FD) : Prop := PE X e (tC X.K b f)
abbrev DT (X : Cx) (b : Bool) (e : Expr) (f : En → Option Bool) : Prop := PT X e (tT X.K b f)
abbrev DW (X : Cx) (b : Bool) (e : Expr) (f : En → Option Bool) : Prop := PW X e (tT X.K b f)
abbrev DA (X : Cx) (b : Bool) (es : List Expr) (f : En → Option (List D)) : Prop := PA X es (tA X.K b f)

theorem PE.weak {X : Cx} {e : Expr} {t t' : TE} (h : PE X e t) (w : ∀ σ H Q, t' σ H Q → t σ H Q) : PE X e t' := ⟨fun pins s σ H Q I q => h.run pins s σ H Q I (w σ H Q q)⟩
theorem PT.weak {X : Cx} {e : Expr} {t t' : TT} (h : PT X e t) (w : ∀ σ H Q, t' σ H Q → t σ H Q) : PT X e t' := ⟨fun pins s σ H Q I q => h.run pins s σ H Q I (w σ H Q q)⟩
theorem PW.weak {X : Cx} {e : Expr} {t t' : TT} (h : PW X e t) (w : ∀ σ H Q, t' σ H Q → t σ H Q) : PW X e t' := ⟨fun wh pins s σ H Q I q => h.run wh pins s σ H Q I (w σ H Q q)⟩
theorem PA.weak {X : Cx} {es : List Expr} {t t' : TA} (h : PA X es t) (w : ∀ σ H Q, t' σ H Q → t σ H Q) : PA X es t' := ⟨fun pos pins s σ H Q I q => h.run pos pins s σ H Q I (w σ H Q q)⟩
theorem PS.weak {X : Cx} {e : Stmt} {t t' : TS} (h : PS X e t) (w : ∀ D σ H, t' D σ H → t D σ H) : PS X e t' := ⟨fun pins s σ H Q I q => h.run pins s σ H Q I (w Q σ H q)⟩
theorem PSs.weak {X : Cx} {e : List Stmt} {t t' : TS} (h : PSs X e t) (w : ∀ D σ H, t' D σ H → t D σ H) : PSs X e t' := ⟨fun pins s σ H Q I q => h.run pins s σ H Q I (w Q σ H q)⟩
/-- two roads for one expression -/
theorem PE.or {X : Cx} {e : Expr} {t t' : TE} (h : PE X e t) (h' : PE X e t') : PE X e (fun σ H Q => t σ H Q ∨ t' σ H Q) := ⟨fun pins s σ H Q I q => q.elim (h.run pins s σ H Q I) (h'.run pins s σ H Q I)⟩

section
variable {X : Cx} {b : Bool} {e : Expr} {f : FD}
theorem DE.c (h : DE X b e f) : DC X b e f := PE.weak h fun σ H Q ⟨F, ρ, om, d, E, e, k⟩ => ⟨F, ρ, om, d, E, e, fun v F' H' t r => k v F' H' t (r.o t.fh)⟩

/-! names and constants -/
def fVar (i : Nat) : FD := fun ρ => match ρ[i]? with
  | some (some (.fz d)) => some d
  | _ => none
def fVarC (i : Nat) : FD := fun ρ => match ρ[i]? with
  | some (some (.fz d)) => some d
  | some (some (.ol ds)) => some (.lst ds)
  | some (some (.od es)) => some (.dic es)
  | _ => none
theorem de_var (i : Nat) {x : Str} {pos : Pos} (h : PE X (.Name x pos) (tVar i)) : DE X b (.Name x pos) (fVar i) := PE.weak h fun σ H Q ⟨F, ρ, om, d, E, e, k⟩ => by
  unfold fVar at e
  split at e
  · rename_i d' q
    cases e
    obtain ⟨v, e1, _, r⟩ := E.sl i _ q
    exact ⟨v, e1, k v F H (.refl E.sub) r⟩
  · cases e
theorem dc_var (i : Nat) {x : Str} {pos : Pos} (h : PE X (.Name x pos) (tVar i)) : DC X b (.Name x pos) (fVarC i) := PE.weak h fun σ H Q ⟨F, ρ, om, d, E, e, k⟩ => by
  unfold fVarC at e
  split at e
  · rename_i d' q
    cases e
    obtain ⟨v, e1, _, r⟩ := E.sl i _ q
    exact ⟨v, e1, k v F H (.refl E.sub) (r.o E.sub)⟩
  · rename_i d' q
    cases e
    obtain ⟨v, e1, l, xs, rfl, _, h1, r⟩ := E.sl i _ q
    exact ⟨_, e1, k _ F H (.refl E.sub) ⟨l, xs, rfl, h1, r⟩⟩
  · rename_i d' q
    cases e
    obtain ⟨v, e1, l, xs, rfl, _, h1, r⟩ := E.sl i _ q
    exact ⟨_, e1, k _ F H (.refl E.sub) ⟨l, xs, rfl, h1, r⟩⟩
  · cases e
def fC (d : D) : FD := fun _ => some d
theorem de_int {i j pos} : DE X b (.Constant (.int i) j pos) (fC (.int i)) := PE.weak pe_int fun σ H Q ⟨F, ρ, om, d, E, e, k⟩ => by cases e; exact k _ F H (.refl E.sub) (.int i)
theorem de_str {i j pos} : DE X b (.Constant (.str i) j pos) (fC (.str i)) := PE.weak pe_str fun σ H Q ⟨F, ρ, om, d, E, e, k⟩ => by cases e; exact k _ F H (.refl E.sub) (.str i)
theorem de_bl {i j pos} : DE X b (.Constant (.bool i) j pos) (fC (.bl i)) := PE.weak pe_bl fun σ H Q ⟨F, ρ, om, d, E, e, k⟩ => by cases e; exact k _ F H (.refl E.sub) (.bl i)
theorem de_non {j pos} : DE X b (.Constant .none j pos) (fC .non) := PE.weak pe_non fun σ H Q ⟨F, ρ, om, d, E, e, k⟩ => by cases e; exact k _ F H (.refl E.sub) .non
theorem de_glob {x : Str} {i : Int} {pos : Pos} (hg : Gl X x) (hm : ∃ t, X.mg x = some (.int i t)) (hd : (x == ("__debug__" : Str)) = false := by decide) : DE X b (.Name x pos) (fC (.int i)) := by
  obtain ⟨t, hm⟩ := hm
  exact PE.weak (pe_glob (v := .int i) hg hm ⟨t, rfl⟩ hd) fun σ H Q ⟨F, ρ, om, d, E, e, k⟩ => by cases e; exact k _ F H (.refl E.sub) (.int i)
end
end K32
end
section
set_option Elab.async false
set_option linter.all false
set_option maxRecDepth 100000
set_option maxHeartbeats 4000000
namespace K32
open PySem PySem.Spec PyProof.Rows L2

/-! ### two-place operations -/
def f2 (dop : D → D → Option D) (fa fb : FD) : FD := fun ρ => (fa ρ).bind fun x => (fb ρ).bind fun y => dop x y
def f1 (dop : D → Option D) (fa : FD) : FD := fun ρ => (fa ρ).bind dop
/-- what r asks follows from the data -/
def OpS (K : PySem.W.Frag) (r : R2) (dop : D → D → Option D) : Prop := ∀ F H vx vy x y z (Q : VK), Same F H → Rep K F vx x → Rep K F vy y → dop x y = some z → (∀ v F' H', Stp F H F' H' → Rep K F' v z → Q v H') → r vx vy H Q
/-- the second one read at once -/
def OpO (K : PySem.W.Frag) (r : R2) (dop : D → D → Option D) : Prop := ∀ F H vx vy x y z (Q : VK), Same F H → RepO K F H vx x → RepO K F H vy y → dop x y = some z → (∀ v F' H', Stp F H F' H' → Rep K F' v z → Q v H') → r vx vy H Q

theorem RepO.step {K : PySem.W.Frag} {F H F' H' : Hp} (t : Stp F H F' H') {v : V} : ∀ {d : D}, RepO K F H v d → RepO K F' H' v d
  | .non, h => Rep.same (d := .non) t.ff h
  | .bl _, h => Rep.same (d := .bl _) t.ff h
  | .int _, h => Rep.same (d := .int _) t.ff h
  | .str _, h => Rep.same (d := .str _) t.ff h
  | .tup _, h => Rep.same (d := .tup _) t.ff h
  | .scr _, h => Rep.same (d := .scr _) t.ff h
  | .lst ds, ⟨l, xs, e, h, r⟩ => ⟨l, xs, e, rd_same t.hh h, r.same t.ff⟩
  | .dic ds, ⟨l, xs, e, h, r⟩ => ⟨l, xs, e, rd_same t.hh h, r.same t.ff⟩

section
variable {X : Cx} {b : Bool} {a c : Expr} {fa fc : FD} {pos : Pos} {r : R2} {dop : D → D → Option D}
theorem bin_w {K : PySem.W.Frag} (h : OpS K r dop) {σ : L2.St} {H : Hp} {Q : VK} (q : tD K b (f2 dop fa fc) σ H Q) : tOp r (tD K b fa) (tD K b fc) σ H Q := by
  obtain ⟨F, ρ, om, z, E, e, k⟩ := q
  unfold f2 at e
  obtain ⟨x, ex, e⟩ := Option.bind_eq_some_iff.mp e
  obtain ⟨y, ey, e⟩ := Option.bind_eq_some_iff.mp e
  refine ⟨F, ρ, om, x, E, ex, fun vx F1 H1 t1 r1 => ⟨F1, ρ, om, y, E.step t1, ey, fun vy F2 H2 t2 r2 => ?_⟩⟩
  exact h F2 H2 vx vy x y z Q t2.fh (r1.same t2.ff) r2 e fun v F3 H3 t3 r3 => k v F3 H3 ((t1.trans t2).trans t3) r3
theorem binO_w {K : PySem.W.Frag} (h : OpO K r dop) {σ : L2.St} {H : Hp} {Q : VK} (q : tD K b (f2 dop fa fc) σ H Q) : tOp r (tC K b fa) (tC K b fc) σ H Q := by
  obtain ⟨F, ρ, om, z, E, e, k⟩ := q
  unfold f2 at e
  obtain ⟨x, ex, e⟩ := Option.bind_eq_some_iff.mp e
  obtain ⟨y, ey, e⟩ := Option.bind_eq_some_iff.mp e
  refine ⟨F, ρ, om, x, E, ex, fun vx F1 H1 t1 r1 => ⟨F1, ρ, om, y, E.step t1, ey, fun vy F2 H2 t2 r2 => ?_⟩⟩
  exact h F2 H2 vx vy x y z Q t2.fh (r1.step t2) r2 e fun v F3 H3 t3 r3 => k v F3 H3 ((t1.trans t2).trans t3) r3
theorem de_bin {op : Operator} (ho : OpR X (binaryOp op) r) (h : OpS X.K r dop) (ha : DE X b a fa) (hc : DE X b c fc) : DE X b (.BinOp a op c pos) (f2 dop fa fc) := PE.weak (pe_op ho ha hc) fun _ _ _ q => bin_w h q
theorem de_cmp {op : CmpOp} (ho : OpR X (compareOp op) r) (h : OpS X.K r dop) (ha : DE X b a fa) (hc : DE X b c fc) (hm : behindInMarks op c = false) : DE X b (.Compare a [op] [c] pos) (f2 dop fa fc) := PE.weak (pe_cmpR ho ha hc hm) fun _ _ _ q => bin_w h q
theorem de_cmpO {op : CmpOp} (ho : OpR X (compareOp op) r) (h : OpO X.K r dop) (ha : DC X b a fa) (hc : DC X b c fc) (hm : behindInMarks op c = false) : DE X b (.Compare a [op] [c] pos) (f2 dop fa fc) := PE.weak (pe_cmpR ho ha hc hm) fun _ _ _ q => binO_w h q

/-! ### tests -/
def dB : D → Option Bool
  | .bl k => some k
  | _ => none
def fT (f : FD) : En → Option Bool := fun ρ => (f ρ).bind dB
theorem dB_some {d : D} {k : Bool} (h : dB d = some k) : d = .bl k := by
  cases d <;> first | (cases h; rfl) | cases h
theorem fT_some {f : FD} {ρ : En} {k : Bool} (h : fT f ρ = some k) : f ρ = some (.bl k) := by
  obtain ⟨d, e, h⟩ := Option.bind_eq_some_iff.mp h
  rw [e, dB_some h]
theorem test_w {K : PySem.W.Frag} {f : FD} {t : TE} (h : ∀ σ H Q, tD K b f σ H Q → t σ H Q) {σ : L2.St} {H : Hp} {Q : Bool → Hp → Prop} (q : tT K b (fT f) σ H Q) : tTest t σ H Q := by
  obtain ⟨F, ρ, om, k, E, e, q⟩ := q
  exact h σ H _ ⟨F, ρ, om, .bl k, E, fT_some e, fun v F' H' t r => by cases r; exact ⟨k, rfl, q F' H' t⟩⟩
theorem dt_cmp {op : CmpOp} (ho : OpR X (compareOp op) r) (h : OpS X.K r dop) (ha : DE X b a fa) (hc : DE X b c fc) (hm : behindInMarks op c = false) : DT X b (.Compare a [op] [c] pos) (fT (f2 dop fa fc)) :=
  PT.weak (pt_cmpR ho ha hc hm) fun _ _ _ q => test_w (fun _ _ _ q => bin_w h q) q
theorem dt_cmpO {op : CmpOp} (ho : OpR X (compareOp op) r) (h : OpO X.K r dop) (ha : DC X b a fa) (hc : DC X b c fc) (hm : behindInMarks op c = false) : DT X b (.Compare a [op] [c] pos) (fT (f2 dop fa fc)) :=
  PT.weak (pt_cmpR ho ha hc hm) fun _ _ _ q => test_w (fun _ _ _ q => binO_w h q) q
/-- an expression that gives True or False, as a test -/
theorem dt_val {e : Expr} {f : FD} (h : DE X b e f) (he : ∀ whole, isTrue e X.env whole = (do let v ← whole; standAt e.pos; holding [v] (truthy v)) := by intro _; rfl) : DT X b e (fT f) :=
  PT.weak (pt_val h he) fun σ H Q q => by
    obtain ⟨F, ρ, om, k, E, e, q⟩ := q
    exact ⟨F, ρ, om, .bl k, E, fT_some e, fun v F' H' t r => by cases r; exact ⟨k, rfl, q F' H' t⟩⟩
def fAndT (f g : En → Option Bool) : En → Option Bool := fun ρ => (f ρ).bind fun k => if k then g ρ else some false
def fOrT (f g : En → Option Bool) : En → Option Bool := fun ρ => (f ρ).bind fun k => if k then some true else g ρ
def fNotT (f : En → Option Bool) : En → Option Bool := fun ρ => (f ρ).map (!·)
variable {g g' : En → Option Bool} {rest : List Expr}
theorem dw_and1 (ha : DT X b a g) : DW X b (.BoolOp .And [a] pos) g := pw_and1 ha
theorem dw_or1 (ha : DT X b a g) : DW X b (.BoolOp .Or [a] pos) g := pw_or1 ha
theorem dw_and (ha : DT X b a g) (hc : DW X b (.BoolOp .And (c :: rest) pos) g') : DW X b (.BoolOp .And (a :: c :: rest) pos) (fAndT g g') := PW.weak (pw_and ha hc) fun σ H Q q => by
  obtain ⟨F, ρ, om, k, E, e, q⟩ := q
  obtain ⟨k1, e1, e⟩ := Option.bind_eq_some_iff.mp e
  refine ⟨F, ρ, om, k1, E, e1, fun F1 H1 t1 => ?_⟩
  cases k1 with
  | true => exact iteT ⟨F1, ρ, om, k, E.step t1, by simpa using e, fun F2 H2 t2 => q F2 H2 (t1.trans t2)⟩
  | false =>
    have ek : k = false := by simpa using e.symm
    subst ek
    exact iteF (q F1 H1 t1)
theorem dw_or (ha : DT X b a g) (hc : DW X b (.BoolOp .Or (c :: rest) pos) g') : DW X b (.BoolOp .Or (a :: c :: rest) pos) (fOrT g g') := PW.weak (pw_or ha hc) fun σ H Q q => by
  obtain ⟨F, ρ, om, k, E, e, q⟩ := q
  obtain ⟨k1, e1, e⟩ := Option.bind_eq_some_iff.mp e
  refine ⟨F, ρ, om, k1, E, e1, fun F1 H1 t1 => ?_⟩
  cases k1 with
  | true =>
    have ek : k = true := by simpa using e.symm
    subst ek
    exact iteT (q F1 H1 t1)
  | false => exact iteF ⟨F1, ρ, om, k, E.step t1, by simpa using e, fun F2 H2 t2 => q F2 H2 (t1.trans t2)⟩
theorem dt_w {e : Expr} (h : DW X b e g) : DT X b e g := PW.pt h
theorem dt_not (ha : DT X b a g) : DT X b (.UnaryOp .Not a pos) (fNotT g) := PT.weak (pt_not ha) fun σ H Q q => by
  obtain ⟨F, ρ, om, k, E, e, q⟩ := q
  obtain ⟨k1, e1, e⟩ := Option.map_eq_some_iff.mp e
  exact ⟨F, ρ, om, k1, E, e1, fun F1 H1 t1 => by show Q (!k1) H1; rw [e]; exact q F1 H1 t1⟩
/-! .. as values -/
def fAnd (f g : FD) : FD := fun ρ => (fT f ρ).bind fun k => if k then (fT g ρ).map D.bl else some (.bl false)
def fOr (f g : FD) : FD := fun ρ => (fT f ρ).bind fun k => if k then some (.bl true) else (fT g ρ).map D.bl
def fNot (f : FD) : FD := fun ρ => (fT f ρ).map fun k => .bl (!k)
theorem de_one {op} {f : FD} (h : DE X b a f) : DE X b (.BoolOp op [a] pos) f := pe_one h
theorem de_and {f g : FD} (ha : DE X b a f) (hc : DE X b (.BoolOp .And (c :: rest) pos) g) : DE X b (.BoolOp .And (a :: c :: rest) pos) (fAnd f g) := PE.weak (pe_and ha hc) fun σ H Q q => by
  obtain ⟨F, ρ, om, d, E, e, q⟩ := q
  obtain ⟨k1, e1, e⟩ := Option.bind_eq_some_iff.mp e
  refine ⟨F, ρ, om, .bl k1, E, fT_some e1, fun v F1 H1 t1 r1 => ?_⟩
  cases r1
  refine ⟨k1, rfl, ?_⟩
  cases k1 with
  | true =>
    simp only [if_true] at e
    obtain ⟨k2, e2, e⟩ := Option.map_eq_some_iff.mp e
    subst e
    exact iteT ⟨F1, ρ, om, .bl k2, E.step t1, fT_some e2, fun v F2 H2 t2 r2 => q v F2 H2 (t1.trans t2) r2⟩
  | false =>
    simp only [Bool.false_eq_true, if_false, Option.some.injEq] at e
    subst e
    exact iteF (q _ F1 H1 t1 (.bl false))
theorem de_or {f g : FD} (ha : DE X b a f) (hc : DE X b (.BoolOp .Or (c :: rest) pos) g) : DE X b (.BoolOp .Or (a :: c :: rest) pos) (fOr f g) := PE.weak (pe_or ha hc) fun σ H Q q => by
  obtain ⟨F, ρ, om, d, E, e, q⟩ := q
  obtain ⟨k1, e1, e⟩ := Option.bind_eq_some_iff.mp e
  refine ⟨F, ρ, om, .bl k1, E, fT_some e1, fun v F1 H1 t1 r1 => ?_⟩
  cases r1
  refine ⟨k1, rfl, ?_⟩
  cases k1 with
  | false =>
    simp only [Bool.false_eq_true, if_false] at e
    obtain ⟨k2, e2, e⟩ := Option.map_eq_some_iff.mp e
    subst e
    exact iteF ⟨F1, ρ, om, .bl k2, E.step t1, fT_some e2, fun v F2 H2 t2 r2 => q v F2 H2 (t1.trans t2) r2⟩
  | true =>
    simp only [if_true, Option.some.injEq] at e
    subst e
    exact iteT (q _ F1 H1 t1 (.bl true))
theorem de_not {f : FD} (ha : DE X b a f) : DE X b (.UnaryOp .Not a pos) (fNot f) := PE.weak (pe_not ha) fun σ H Q q => by
  obtain ⟨F, ρ, om, d, E, e, q⟩ := q
  obtain ⟨k1, e1, e⟩ := Option.map_eq_some_iff.mp e
  refine ⟨F, ρ, om, .bl k1, E, fT_some e1, fun v F1 H1 t1 r1 => ?_⟩
  cases r1
  subst e
  exact ⟨k1, rfl, q _ F1 H1 t1 (.bl _)⟩
end

/-! ### the operations -/
theorem line_of {n : Nat} (h : n ≤ 100000) : n ≤ sizeLine := Nat.le_trans h (by decide)
theorem line_lt {n : Nat} (h : n < 100000) : n < sizeLine := Nat.lt_of_lt_of_le h (by decide)
section
variable {K : PySem.W.Frag}
theorem Rep.int_inv {H : Hp} {v : V} {i : Int} (h : Rep K H v (.int i)) : v = .int i := by cases h; rfl
theorem Rep.bl_inv {H : Hp} {v : V} {i : Bool} (h : Rep K H v (.bl i)) : v = .bl i := by cases h; rfl
theorem Rep.str_inv {H : Hp} {v : V} {i : Str} (h : Rep K H v (.str i)) : v = .str i := by cases h; rfl
theorem Rep.non_inv {H : Hp} {v : V} (h : Rep K H v .non) : v = .non := by cases h; rfl
theorem Rep.tup_inv {H : Hp} {v : V} {ds : List D} (h : Rep K H v (.tup ds)) : ∃ a xs, v = .ref a ∧ H a = some (.tup xs) ∧ RepL K H xs ds := by cases h with | tup e r => exact ⟨_, _, rfl, e, r⟩
theorem Rep.lst_inv {H : Hp} {v : V} {ds : List D} (h : Rep K H v (.lst ds)) : ∃ a xs, v = .ref a ∧ H a = some (.lst xs) ∧ RepL K H xs ds := by cases h with | lst e r => exact ⟨_, _, rfl, e, r⟩
theorem Rep.dic_inv {H : Hp} {v : V} {ds : List (Int × D)} (h : Rep K H v (.dic ds)) : ∃ a xs, v = .ref a ∧ Rd H a (.dK xs) ∧ RepD K H xs ds := by cases h with | dic e r => exact ⟨_, _, rfl, e, r⟩
theorem Rep.scr_inv {H : Hp} {v : V} {ns : List Int} (h : Rep K H v (.scr ns)) : ∃ a, v = .ref a ∧ SqL K H a (ns.map V.int) := by cases h with | scr e => exact ⟨_, rfl, e⟩
theorem rep_newT {F H : Hp} {p : Addr} {xs : List V} {ds : List D} (s : Same F H) (h : H p = none) (r : RepL K F xs ds) : Rep K (upd F p (.tup xs)) (.ref p) (.tup ds) := .tup upd_same (r.same (same_new (s.free h)))
theorem rep_newL {F H : Hp} {p : Addr} {xs : List V} {ds : List D} (s : Same F H) (h : H p = none) (r : RepL K F xs ds) : Rep K (upd F p (.lst xs)) (.ref p) (.lst ds) := .lst upd_same (r.same (same_new (s.free h)))

def dAdd : D → D → Option D
  | .int i, .int j => some (.int (i + j))
  | .tup a, .tup c => if a.length + c.length ≤ 100000 then some (.tup (a ++ c)) else none
  | .lst a, .lst c => if a.length + c.length ≤ 100000 then some (.lst (a ++ c)) else none
  | _, _ => none
def rAddD (K : PySem.W.Frag) : R2 := fun x y H Q => rI0 (fun i j => .int (i + j)) x y H Q ∨ (rCatA K x y H Q ∨ rCat x y H Q)
theorem op_addD {X : Cx} : OpR X (binaryOp .Add) (rAddD X.K) := op_add.or (op_catA.or op_cat)
theorem os_add : OpS K (rAddD K) dAdd := by
  intro F H vx vy x y z Q s rx ry e k
  unfold dAdd at e
  split at e
  · cases e
    cases rx.int_inv
    cases ry.int_inv
    exact .inl ⟨_, _, rfl, rfl, k _ F H (.refl s) (.int _)⟩
  · rename_i da dc
    split at e
    · rename_i hl
      cases e
      obtain ⟨a, xs, rfl, ha, ra⟩ := rx.tup_inv
      obtain ⟨c, ys, rfl, hc, rc⟩ := ry.tup_inv
      refine .inr (.inl ⟨a, c, xs, ys, rfl, rfl, SqT.of (s _ _ ha), SqT.of (s _ _ hc), by rw [ra.length, rc.length]; exact line_of hl, fun e => ?_, fun _ e => ?_, fun _ _ p hp => ?_⟩)
      · subst e
        cases ra
        exact k _ F H (.refl s) (by simpa using Rep.tup hc rc)
      · subst e
        cases rc
        exact k _ F H (.refl s) (by simpa using Rep.tup ha ra)
      · exact k _ _ _ (.new s hp (fun _ _ z => nomatch z)) (rep_newT s hp (ra.append rc))
    · cases e
  · rename_i da dc
    split at e
    · rename_i hl
      cases e
      obtain ⟨a, xs, rfl, ha, ra⟩ := rx.lst_inv
      obtain ⟨c, ys, rfl, hc, rc⟩ := ry.lst_inv
      refine .inr (.inr ⟨a, c, xs, ys, rfl, rfl, s _ _ ha, s _ _ hc, by rw [ra.length, rc.length]; exact line_of hl, fun p hp => ?_⟩)
      exact k _ _ _ (.new s hp (fun _ _ z => nomatch z)) (rep_newL s hp (ra.append rc))
    · cases e
  · cases e
def dSub : D → D → Option D
  | .int i, .int j => some (.int (i - j))
  | _, _ => none
theorem os_I0 {g : Int → Int → V} {dop : D → D → Option D} {gd : Int → Int → D} (h : ∀ x y z, dop x y = some z → ∃ i j, x = .int i ∧ y = .int j ∧ z = gd i j) (hg : ∀ i j H, Rep K H (g i j) (gd i j)) : OpS K (rI0 g) dop := by
  intro F H vx vy x y z Q s rx ry e k
  obtain ⟨i, j, rfl, rfl, rfl⟩ := h _ _ _ e
  cases rx.int_inv
  cases ry.int_inv
  exact ⟨_, _, rfl, rfl, k _ F H (.refl s) (hg i j F)⟩
theorem os_I {C : Int → Int → Prop} {g : Int → Int → V} {dop : D → D → Option D} {gd : Int → Int → D} (h : ∀ x y z, dop x y = some z → ∃ i j, x = .int i ∧ y = .int j ∧ z = gd i j ∧ C i j) (hg : ∀ i j H, Rep K H (g i j) (gd i j)) : OpS K (rI C g) dop := by
  intro F H vx vy x y z Q s rx ry e k
  obtain ⟨i, j, rfl, rfl, rfl, c⟩ := h _ _ _ e
  cases rx.int_inv
  cases ry.int_inv
  exact ⟨_, _, rfl, rfl, c, k _ F H (.refl s) (hg i j F)⟩
theorem os_sub : OpS K (rI0 fun i j => .int (i - j)) dSub := os_I0 (gd := fun i j => .int (i - j)) (fun x y z e => by
  unfold dSub at e
  split at e
  · cases e; exact ⟨_, _, rfl, rfl, rfl⟩
  · cases e) fun _ _ _ => .int _
def mulOk (i j : Int) : Bool := (decide (-18446744073709551616 < i) && decide (i < 18446744073709551616)) || (decide (-18446744073709551616 < j) && decide (j < 18446744073709551616))
def dMul : D → D → Option D
  | .int i, .int j => if mulOk i j then some (.int (i * j)) else none
  | _, _ => none
theorem os_mul : OpS K (rI CMul fun i j => .int (i * j)) dMul := os_I (gd := fun i j => .int (i * j)) (fun x y z e => by
  unfold dMul at e
  split at e
  · split at e
    · rename_i hc
      cases e
      refine ⟨_, _, rfl, rfl, rfl, ?_⟩
      simp only [mulOk, Bool.or_eq_true, Bool.and_eq_true, decide_eq_true_eq] at hc
      rcases hc with ⟨h1, h2⟩ | ⟨h1, h2⟩
      · exact .inl ⟨by omega, by omega⟩
      · exact .inr ⟨by omega, by omega⟩
    · cases e
  · cases e) fun _ _ _ => .int _
def dDiv : D → D → Option D
  | .int i, .int j => if 0 < j ∧ j < 1073741824 then some (.int (i / j)) else none
  | _, _ => none
theorem os_div : OpS K (rI CDiv fun i j => .int (i / j)) dDiv := os_I (gd := fun i j => .int (i / j)) (fun x y z e => by
  unfold dDiv at e
  split at e
  · split at e
    · rename_i hc
      cases e
      exact ⟨_, _, rfl, rfl, rfl, hc⟩
    · cases e
  · cases e) fun _ _ _ => .int _
def dMod : D → D → Option D
  | .int i, .int j => if 0 < j then some (.int (i % j)) else none
  | _, _ => none
theorem os_mod : OpS K (rI (fun _ j => 0 < j) fun i j => .int (i % j)) dMod := os_I (gd := fun i j => .int (i % j)) (fun x y z e => by
  unfold dMod at e
  split at e
  · split at e
    · rename_i hc
      cases e
      exact ⟨_, _, rfl, rfl, rfl, hc⟩
    · cases e
  · cases e) fun _ _ _ => .int _
/-- 10 ** 18 and its like -/
def dPow : D → D → Option D
  | .int i, .int j => if 0 ≤ i ∧ i ≤ 1000 ∧ 0 ≤ j ∧ j ≤ 1000 then some (.int (i ^ j.toNat)) else none
  | _, _ => none
theorem os_pow : OpS K (rI CPow fun i j => .int (i ^ j.toNat)) dPow := os_I (gd := fun i j => .int (i ^ j.toNat)) (fun x y z e => by
  unfold dPow at e
  split at e
  · split at e
    · rename_i hc
      cases e
      exact ⟨_, _, rfl, rfl, rfl, by omega, by omega, by omega⟩
    · cases e
  · cases e) fun _ _ _ => .int _

/-! comparisons -/
def dLt : D → D → Option D
  | .int i, .int j => some (.bl (decide (i < j)))
  | _, _ => none
def dLe : D → D → Option D
  | .int i, .int j => some (.bl (decide (i ≤ j)))
  | _, _ => none
def dGt : D → D → Option D
  | .int i, .int j => some (.bl (decide (j < i)))
  | _, _ => none
def dGe : D → D → Option D
  | .int i, .int j => some (.bl (decide (j ≤ i)))
  | _, _ => none
theorem os_lt : OpS K (rI0 fun i j => .bl (decide (i < j))) dLt := os_I0 (gd := fun i j => .bl (decide (i < j))) (fun x y z e => by
  unfold dLt at e
  split at e
  · cases e; exact ⟨_, _, rfl, rfl, rfl⟩
  · cases e) fun _ _ _ => .bl _
theorem os_le : OpS K (rI0 fun i j => .bl (decide (i ≤ j))) dLe := os_I0 (gd := fun i j => .bl (decide (i ≤ j))) (fun x y z e => by
  unfold dLe at e
  split at e
  · cases e; exact ⟨_, _, rfl, rfl, rfl⟩
  · cases e) fun _ _ _ => .bl _
theorem os_gt : OpS K (rI0 fun i j => .bl (decide (j < i))) dGt := os_I0 (gd := fun i j => .bl (decide (j < i))) (fun x y z e => by
  unfold dGt at e
  split at e
  · cases e; exact ⟨_, _, rfl, rfl, rfl⟩
  · cases e) fun _ _ _ => .bl _
theorem os_ge : OpS K (rI0 fun i j => .bl (decide (j ≤ i))) dGe := os_I0 (gd := fun i j => .bl (decide (j ≤ i))) (fun x y z e => by
  unfold dGe at e
  split at e
  · cases e; exact ⟨_, _, rfl, rfl, rfl⟩
  · cases e) fun _ _ _ => .bl _

/-- flat data: None, ints -/
inductive Ft where
  | non | int (i : Int)
  deriving DecidableEq
def Ft.d : Ft → D
  | .non => .non
  | .int i => .int i
def Ft.py : Ft → PyData
  | .non => .none
  | .int i => .int i
def flat : D → Option Ft
  | .non => some .non
  | .int i => some (.int i)
  | _ => none
theorem flat_some {d : D} {f : Ft} (h : flat d = some f) : d = f.d := by
  cases d <;> first | (cases h; rfl) | cases h
def flats : List D → Option (List Ft)
  | [] => some []
  | d :: ds => (flat d).bind fun f => (flats ds).bind fun fs => some (f :: fs)
theorem flats_some : ∀ {ds : List D} {fs : List Ft}, flats ds = some fs → ds = fs.map Ft.d
  | [], fs, h => by cases h; rfl
  | d :: ds, fs, h => by
    obtain ⟨f, e1, h⟩ := Option.bind_eq_some_iff.mp h
    obtain ⟨gs, e2, h⟩ := Option.bind_eq_some_iff.mp h
    cases h
    rw [flat_some e1, flats_some e2]
    rfl
theorem dp_flat {H : Hp} {v : V} {f : Ft} (h : Rep K H v f.d) : Dp K H v f.py := by
  cases f with
  | non => cases h; exact .non
  | int i => cases h; exact .int i
theorem dp_flats {H : Hp} : ∀ {fs : List Ft} {vs : List V}, RepL K H vs (fs.map Ft.d) → DpAll K H vs (fs.map Ft.py)
  | [], _, h => by cases h; exact .nil
  | f :: fs, _, h => by cases h with | cons r t => exact .cons (dp_flat r) (dp_flats t)
theorem eqv_flat (f g : Ft) : PyData.eqv f.py g.py = decide (f = g) := by
  cases f <;> cases g <;> simp [Ft.py, PyData.eqv] <;> rfl
theorem eqv_flats : ∀ fs gs : List Ft, PyData.eqvAll (fs.map Ft.py) (gs.map Ft.py) = decide (fs = gs)
  | [], [] => by simp [PyData.eqvAll]
  | [], g :: gs => by simp [PyData.eqvAll]
  | f :: fs, [] => by simp [PyData.eqvAll]
  | f :: fs, g :: gs => by
    simp only [List.map_cons, PyData.eqvAll, eqv_flat, eqv_flats fs gs, List.cons.injEq]
    by_cases h : f = g <;> by_cases q : fs = gs <;> simp [h, q]
theorem shaped_flat : ∀ fs : List Ft, PyData.canLayAll0 (fs.map Ft.py) = true ∧ PyData.depthAll (fs.map Ft.py) = 0
  | [] => ⟨rfl, rfl⟩
  | f :: fs => by
    obtain ⟨h1, h2⟩ := shaped_flat fs
    simp only [List.map_cons, PyData.canLayAll0, PyData.depthAll, h1, h2]
    cases f <;> simp [Ft.py, PyData.canLay0, PyData.depth]
theorem shaped_tup (fs : List Ft) : SeqAt.shaped (.tuple (fs.map Ft.py)) = true := by
  obtain ⟨h1, h2⟩ := shaped_flat fs
  simp [SeqAt.shaped, PyData.canLay0, PyData.depth, h1, h2]
theorem shaped_lst (fs : List Ft) : SeqAt.shaped (.list (fs.map Ft.py)) = true := by
  obtain ⟨h1, h2⟩ := shaped_flat fs
  simp [SeqAt.shaped, PyData.canLay0, PyData.depth, h1, h2]
end
end K32
end
section
set_option Elab.async false
set_option linter.all false
set_option maxRecDepth 100000
set_option maxHeartbeats 4000000
namespace K32
open PySem PySem.Spec PyProof.Rows L2

/-! ### == -/
def rEqDR : R2 := fun x y H Q => ∃ a b ks ls, x = .ref a ∧ y = .ref b ∧ Rd H a (.dK ks) ∧ Rd H b (.dK ls) ∧ ks.length = ls.length ∧ (∀ p ∈ ks, valV ls p.1 = some p.2 ∧ flatB p.2 = true) ∧ Q (.bl true) H
theorem op_eq_dictR {X : Cx} (hu : X.A.units < cLine) : OpR X (compareOp .Eq) rEqDR := by
  intro pins s σ H x y v u Q I rx ry h
  obtain ⟨a, b, ks, ls, rfl, rfl, ea, eb, hlen, hp, q⟩ := h
  obtain rfl : v = Value.ref a := rx
  obtain rfl : u = Value.ref b := ry
  obtain ⟨_, ya, va, ra, da⟩ := dk_rd I.hok ea
  obtain ⟨_, yb, vb, rb, db⟩ := dk_rd I.hok eb
  have hl : va.length = vb.length := by rw [← ra.length, ← rb.length]; exact hlen
  exact PySem.W.keq_eq (knd := mixKind X.prog X.w) (r := true) ya yb da db hu (fun _ => hits_all rb ra hp) (fin_bl I q (by simp [hl]))
/-- the same keys with the same whole numbers -/
def dicEq (a c : List (Int × D)) : Bool := decide (a.length = c.length) && a.all fun e => match e.2, dLook c e.1 with
  | .int i, some (.int j) => decide (i = j)
  | _, _ => false
def eqB : D → D → Option Bool
  | .non, .non => some true
  | .non, .int _ => some false
  | .int _, .non => some false
  | .non, .str _ => some false
  | .str _, .non => some false
  | .int i, .int j => some (decide (i = j))
  | .bl i, .bl j => some (decide (i = j))
  | .str i, .str j => some (decide (i = j))
  | .tup a, .tup c => (flats a).bind fun fa => (flats c).bind fun fc => some (decide (fa = fc))
  | .lst a, .lst c => (flats a).bind fun fa => (flats c).bind fun fc => some (decide (fa = fc))
  | _, _ => none
def dEq (x y : D) : Option D := (eqB x y).map D.bl
def dNe (x y : D) : Option D := (eqB x y).map fun k => D.bl (!k)
section
variable {K : PySem.W.Frag}
theorem sc_eq {H : Hp} {vx vy : V} {x y : D} {k : Bool} (rx : Rep K H vx x) (ry : Rep K H vy y) (e : eqB x y = some k) : (scal vx vy = true ∧ decide (vx = vy) = k) ∨
    ∃ d e, Dp K H vx d ∧ Dp K H vy e ∧ SeqAt.shaped d = true ∧ SeqAt.shaped e = true ∧ PyData.eqv d e = k := by
  unfold eqB at e
  split at e
  · cases rx; cases ry; cases e; exact .inl ⟨rfl, by simp⟩
  · cases rx; cases ry; cases e; exact .inl ⟨rfl, by simp⟩
  · cases rx; cases ry; cases e; exact .inl ⟨rfl, by simp⟩
  · cases rx; cases ry; cases e; exact .inl ⟨rfl, by simp⟩
  · cases rx; cases ry; cases e; exact .inl ⟨rfl, by simp⟩
  · cases rx; cases ry; cases e; exact .inl ⟨rfl, by simp⟩
  · cases rx; cases ry; cases e; exact .inl ⟨rfl, by simp⟩
  · cases rx; cases ry; cases e; exact .inl ⟨rfl, by simp⟩
  · obtain ⟨fa, e1, e⟩ := Option.bind_eq_some_iff.mp e
    obtain ⟨fc, e2, e⟩ := Option.bind_eq_some_iff.mp e
    cases e
    have ea := flats_some e1
    have ec := flats_some e2
    subst ea ec
    obtain ⟨a, xs, rfl, ha, ra⟩ := rx.tup_inv
    obtain ⟨c, ys, rfl, hc, rc⟩ := ry.tup_inv
    exact .inr ⟨_, _, .tup (SqT.of ha) (dp_flats ra), .tup (SqT.of hc) (dp_flats rc), shaped_tup fa, shaped_tup fc, by simp only [PyData.eqv, eqv_flats]⟩
  · obtain ⟨fa, e1, e⟩ := Option.bind_eq_some_iff.mp e
    obtain ⟨fc, e2, e⟩ := Option.bind_eq_some_iff.mp e
    cases e
    have ea := flats_some e1
    have ec := flats_some e2
    subst ea ec
    obtain ⟨a, xs, rfl, ha, ra⟩ := rx.lst_inv
    obtain ⟨c, ys, rfl, hc, rc⟩ := ry.lst_inv
    exact .inr ⟨_, _, .lst (SqL.of ha) (dp_flats ra), .lst (SqL.of hc) (dp_flats rc), shaped_lst fa, shaped_lst fc, by simp only [PyData.eqv, eqv_flats]⟩
  · cases e
def rEqX (K : PySem.W.Frag) : R2 := fun x y H Q => rEq x y H Q ∨ rEqD K x y H Q
def rNeX (K : PySem.W.Frag) : R2 := fun x y H Q => rNe x y H Q ∨ rNeD K x y H Q
theorem op_eqX {X : Cx} {k : Nat} (hr : Room k X.A) : OpR X (compareOp .Eq) (rEqX X.K) := op_eq.or (op_eqD hr.units)
theorem op_neX {X : Cx} {k : Nat} (hr : Room k X.A) : OpR X (compareOp .NotEq) (rNeX X.K) := op_ne.or (op_neD hr.units)
theorem Dp.mo {H H' : Hp} (m : Same H H') : True := trivial
theorem os_eq : OpS K (rEqX K) dEq := by
  intro F H vx vy x y z Q s rx ry e k
  obtain ⟨kk, e1, e⟩ := Option.map_eq_some_iff.mp e
  subst e
  rcases sc_eq (rx.same s) (ry.same s) e1 with ⟨h1, h2⟩ | ⟨d, e', h1, h2, h3, h4, h5⟩
  · refine .inl ⟨h1, ?_⟩
    rw [h2]
    exact k _ F H (.refl s) (.bl _)
  · refine .inr ⟨d, e', h1, h2, h3, h4, ?_⟩
    rw [h5]
    exact k _ F H (.refl s) (.bl _)
theorem os_ne : OpS K (rNeX K) dNe := by
  intro F H vx vy x y z Q s rx ry e k
  obtain ⟨kk, e1, e⟩ := Option.map_eq_some_iff.mp e
  subst e
  rcases sc_eq (rx.same s) (ry.same s) e1 with ⟨h1, h2⟩ | ⟨d, e', h1, h2, h3, h4, h5⟩
  · refine .inl ⟨h1, ?_⟩
    rw [h2]
    exact k _ F H (.refl s) (.bl _)
  · refine .inr ⟨d, e', h1, h2, h3, h4, ?_⟩
    rw [h5]
    exact k _ F H (.refl s) (.bl _)
/-- two dicts: their == when they are alike -/
def dEqDic : D → D → Option D
  | .dic a, .dic c => if dicEq a c then some (.bl true) else none
  | _, _ => none
theorem dicEq_val {H : Hp} : ∀ {es : List (Int × D)} {kvs : List (Key × V)} {fs : List (Int × D)} {lvs : List (Key × V)}, RepD K H kvs es → RepD K H lvs fs →
    (es.all fun e => match e.2, dLook fs e.1 with
      | .int i, some (.int j) => decide (i = j)
      | _, _ => false) = true → ∀ p ∈ kvs, valV lvs p.1 = some p.2 ∧ flatB p.2 = true
  | [], _, _, _, h, _, _ => by
    cases h
    intro p hp
    cases hp
  | (k, d) :: es, _, fs, lvs, h, g, q => by
    cases h with
    | @cons _ v kvs _ _ r t =>
      simp only [List.all_cons, Bool.and_eq_true] at q
      intro p hp
      rcases List.mem_cons.mp hp with rfl | hp
      · have q1 := q.1
        split at q1
        · rename_i x1 x2 i j e2
          have eij : i = j := of_decide_eq_true q1
          subst eij
          have ev := r.int_inv
          subst ev
          obtain ⟨v', e3, r'⟩ := (g.look k).1 _ e2
          rw [r'.int_inv] at e3
          exact ⟨e3, rfl⟩
        · cases q1
      · exact dicEq_val t g q.2 p hp
theorem os_eqDic : OpS K rEqDR dEqDic := by
  intro F H vx vy x y z Q s rx ry e k
  unfold dEqDic at e
  split at e
  · rename_i a c
    split at e
    · rename_i hq
      cases e
      obtain ⟨a', xs, rfl, ha, ra⟩ := rx.dic_inv
      obtain ⟨c', ys, rfl, hc, rc⟩ := ry.dic_inv
      simp only [dicEq, Bool.and_eq_true, decide_eq_true_eq] at hq
      refine ⟨a', c', xs, ys, rfl, rfl, rd_same s ha, rd_same s hc, by rw [ra.length, rc.length]; exact hq.1, dicEq_val ra rc hq.2, k _ F H (.refl s) (.bl _)⟩
    · cases e
  · cases e

/-! ### is None -/
def isN : D → Bool
  | .non => true
  | _ => false
theorem Rep.isN {H : Hp} {v : V} {d : D} (r : Rep K H v d) : decide (v = .non) = K32.isN d := by
  cases r <;> simp [K32.isN]
def dIsN (x y : D) : Option D := match y with
  | .non => some (.bl (isN x))
  | _ => none
def dNotN (x y : D) : Option D := match y with
  | .non => some (.bl (!isN x))
  | _ => none
theorem os_isN : OpS K (fun x y H Q => y = .non ∧ Q (.bl (decide (x = .non))) H) dIsN := by
  intro F H vx vy x y z Q s rx ry e k
  unfold dIsN at e
  split at e
  · cases e
    exact ⟨ry.non_inv, by rw [rx.isN]; exact k _ F H (.refl s) (.bl _)⟩
  · cases e
theorem os_notN : OpS K (fun x y H Q => y = .non ∧ Q (.bl (!decide (x = .non))) H) dNotN := by
  intro F H vx vy x y z Q s rx ry e k
  unfold dNotN at e
  split at e
  · cases e
    exact ⟨ry.non_inv, by rw [rx.isN]; exact k _ F H (.refl s) (.bl _)⟩
  · cases e

/-! ### in -/
inductive Fs where
  | non | int (i : Int) | str (x : Str)
  deriving DecidableEq
def fl : D → Option Fs
  | .non => some .non
  | .int i => some (.int i)
  | .str x => some (.str x)
  | _ => none
def fls : List D → Option (List Fs)
  | [] => some []
  | d :: ds => (fl d).bind fun f => (fls ds).bind fun fs => some (f :: fs)
def Fs.v : Fs → V
  | .non => .non
  | .int i => .int i
  | .str x => .str x
theorem fl_v {H : Hp} {v : V} {d : D} {f : Fs} (r : Rep K H v d) (e : fl d = some f) : v = f.v := by
  cases r <;> first | (cases e; rfl) | cases e
theorem fls_v {H : Hp} : ∀ {ds : List D} {vs : List V} {fs : List Fs}, RepL K H vs ds → fls ds = some fs → vs = fs.map Fs.v
  | [], _, _, h, e => by cases h; cases e; rfl
  | d :: ds, _, _, h, e => by
    cases h with
    | cons r t =>
      obtain ⟨f, e1, e⟩ := Option.bind_eq_some_iff.mp e
      obtain ⟨fs, e2, e⟩ := Option.bind_eq_some_iff.mp e
      cases e
      rw [fl_v r e1, fls_v t e2]
      rfl
theorem fs_flat (f : Fs) : flatV f.v = true := by cases f <;> rfl
theorem fs_flats (fs : List Fs) : (fs.map Fs.v).all flatV = true := by
  rw [List.all_map]
  simp [fs_flat, Function.comp_def]
theorem fs_eqV (f g : Fs) : eqV f.v g.v = decide (g = f) := by
  cases f with
  | non => cases g <;> first | rfl | simp [Fs.v, eqV]
  | int i => cases g with
    | int j =>
      simp only [Fs.v, eqV, Fs.int.injEq, Bool.beq_eq_decide_eq]
      exact decide_eq_decide.mpr eq_comm
    | _ => simp [Fs.v, eqV]
  | str i => cases g with
    | str j =>
      simp only [Fs.v, eqV, Fs.str.injEq, Bool.beq_eq_decide_eq]
      exact decide_eq_decide.mpr eq_comm
    | _ => simp [Fs.v, eqV]
theorem fs_inV (f : Fs) (fs : List Fs) : inV f.v (fs.map Fs.v) = decide (f ∈ fs) := by
  induction fs with
  | nil => rfl
  | cons g fs ih =>
    have ih' : ((fs.map Fs.v).any fun y => eqV y f.v) = decide (f ∈ fs) := ih
    simp only [inV, List.map_cons, List.any_cons, ih', fs_eqV, List.mem_cons, Bool.decide_or]
def inB : D → D → Option Bool
  | x, .tup ds => (fl x).bind fun f => (fls ds).bind fun fs => some (decide (f ∈ fs))
  | x, .lst ds => (fl x).bind fun f => (fls ds).bind fun fs => some (decide (f ∈ fs))
  | .int k, .dic es => some (dLook es k).isSome
  | _, _ => none
def dIn (x y : D) : Option D := (inB x y).map D.bl
def dNin (x y : D) : Option D := (inB x y).map fun k => D.bl (!k)
theorem in_w {F H : Hp} (s : Same F H) {vx vy : V} {x y : D} {k : Bool} (rx : RepO K F H vx x) (ry : RepO K F H vy y) (e : inB x y = some k) :
    (∃ p xs, vy = .ref p ∧ (SqL K H p xs ∨ SqT K H p xs) ∧ flatV vx = true ∧ xs.all flatV = true ∧ inV vx xs = k) ∨ ∃ a o, vy = .ref a ∧ DGet H a vx o ∧ o.isSome = k := by
  have fx : ∀ {f : Fs}, fl x = some f → vx = f.v := fun {f} e => by
    cases x <;> first | exact fl_v rx e | cases e
  unfold inB at e
  split at e
  · obtain ⟨f, e1, e⟩ := Option.bind_eq_some_iff.mp e
    obtain ⟨fs, e2, e⟩ := Option.bind_eq_some_iff.mp e
    cases e
    obtain ⟨a, xs, rfl, ha, ra⟩ := Rep.tup_inv ry
    have e3 := fx e1
    have e4 := fls_v ra e2
    subst e3 e4
    exact .inl ⟨a, _, rfl, .inr (SqT.of (s _ _ ha)), fs_flat f, fs_flats fs, fs_inV f fs⟩
  · obtain ⟨f, e1, e⟩ := Option.bind_eq_some_iff.mp e
    obtain ⟨fs, e2, e⟩ := Option.bind_eq_some_iff.mp e
    cases e
    obtain ⟨a, xs, rfl, ha, ra⟩ := ry
    have e3 := fx e1
    have e4 := fls_v ra e2
    subst e3 e4
    exact .inl ⟨a, _, rfl, .inl (.inl ha), fs_flat f, fs_flats fs, fs_inV f fs⟩
  · rename_i kx es
    cases e
    obtain ⟨a, kvs, rfl, ha, ra⟩ := ry
    have ex : vx = .int kx := Rep.int_inv rx
    subst ex
    refine .inr ⟨a, valV kvs (.inl kx), rfl, .inl ⟨kvs, .inl kx, ha, rfl, rfl⟩, ?_⟩
    cases q : dLook es kx with
    | none => rw [(ra.look kx).2 q]; rfl
    | some d =>
      obtain ⟨v, e1, _⟩ := (ra.look kx).1 d q
      rw [e1]
      rfl
  · cases e
section
variable {X : Cx} {b : Bool} {a c : Expr} {fa fc : FD} {pos : Pos} {k : Nat}
theorem PT.or {e : Expr} {t t' : TT} (h : PT X e t) (h' : PT X e t') : PT X e (fun σ H Q => t σ H Q ∨ t' σ H Q) := ⟨fun pins s σ H Q I q => q.elim (h.run pins s σ H Q I) (h'.run pins s σ H Q I)⟩
end
end
end K32
end
section
set_option Elab.async false
set_option linter.all false
set_option maxRecDepth 100000
set_option maxHeartbeats 4000000
namespace K32
open PySem PySem.Spec PyProof.Rows L2

/-! ### in, not in: the sequences' road or the dicts' -/
def rInX (K : PySem.W.Frag) (neg : Bool) : R2 := fun x y H Q => rIn K neg x y H Q ∨ ∃ a o, y = .ref a ∧ DGet H a x o ∧ Q (.bl (if neg then !o.isSome else o.isSome)) H
theorem op_inX {X : Cx} {k : Nat} (hr : Room k X.A) : OpR X (compareOp .In) (rInX X.K false) := by
  intro pins s σ H x y v u Q I rx ry h
  rcases h with h | ⟨a, o, rfl, g, q⟩
  · exact op_in_seq pins s σ H x y v u Q I rx ry h
  · obtain rfl : u = Value.ref a := ry
    exact d_in (hu_of hr) I g rx (fun s' I' => ⟨.bl o.isSome, H, I', rfl, q⟩)
theorem op_ninX {X : Cx} {k : Nat} (hr : Room k X.A) : OpR X (compareOp .NotIn) (rInX X.K true) := by
  intro pins s σ H x y v u Q I rx ry h
  rcases h with h | ⟨a, o, rfl, g, q⟩
  · exact op_notIn_seq pins s σ H x y v u Q I rx ry h
  · obtain rfl : u = Value.ref a := ry
    exact d_notIn (hu_of hr) I g rx (fun s' I' => ⟨.bl (!o.isSome), H, I', rfl, q⟩)
section
variable {K : PySem.W.Frag}
theorem oo_in : OpO K (rInX K false) dIn := by
  intro F H vx vy x y z Q s rx ry e k
  obtain ⟨kk, e1, e⟩ := Option.map_eq_some_iff.mp e
  subst e
  rcases in_w s rx ry e1 with ⟨p, xs, h1, h2, h3, h4, h5⟩ | ⟨a, o, h1, h2, h3⟩
  · refine .inl ⟨p, xs, h1, h2, h3, h4, ?_⟩
    rw [if_neg Bool.false_ne_true, h5]
    exact k _ F H (.refl s) (.bl _)
  · refine .inr ⟨a, o, h1, h2, ?_⟩
    rw [if_neg Bool.false_ne_true, h3]
    exact k _ F H (.refl s) (.bl _)
theorem oo_nin : OpO K (rInX K true) dNin := by
  intro F H vx vy x y z Q s rx ry e k
  obtain ⟨kk, e1, e⟩ := Option.map_eq_some_iff.mp e
  subst e
  rcases in_w s rx ry e1 with ⟨p, xs, h1, h2, h3, h4, h5⟩ | ⟨a, o, h1, h2, h3⟩
  · refine .inl ⟨p, xs, h1, h2, h3, h4, ?_⟩
    rw [if_pos rfl, h5]
    exact k _ F H (.refl s) (.bl _)
  · refine .inr ⟨a, o, h1, h2, ?_⟩
    rw [if_pos rfl, h3]
    exact k _ F H (.refl s) (.bl _)

/-! ### subscripts -/
def rIxD : R2 := fun x y H Q => ∃ a v, x = .ref a ∧ DGet H a y (some v) ∧ Q v H
theorem ix_dict {X : Cx} {k : Nat} (hr : Room k X.A) : IxR X rIxD := by
  intro value slice pins s σ H x y v u Q I rx ry h hs
  obtain ⟨a, w, rfl, g, q⟩ := h
  obtain rfl : v = Value.ref a := rx
  exact tail_any (dict_typeIs I g) slot_dict_getitem.lookup (d_getItem (hu_of hr) I g ry fun w' s3 I3 rw' => ⟨w, H, I3, rw', q⟩) hs
def rIxX (K : PySem.W.Frag) : R2 := fun x y H Q => (rIxL K x y H Q ∨ rIxT K x y H Q) ∨ rIxD x y H Q
theorem ix_X {X : Cx} {k : Nat} (hr : Room k X.A) : IxR X (rIxX X.K) := (ix_list.or ix_tup).or (ix_dict hr)
def dIx : D → D → Option D
  | .tup ds, .int i => atI ds i
  | .lst ds, .int i => atI ds i
  | .scr ns, .int i => (atI ns i).map D.int
  | .dic es, .int i => dLook es i
  | _, _ => none
theorem RepL.atI {H : Hp} {ds : List D} {vs : List V} {i : Int} {d : D} (h : RepL K H vs ds) (e : L2.atI ds i = some d) : ∃ v, L2.atI vs i = some v ∧ Rep K H v d := by
  unfold L2.atI at e ⊢
  rw [h.length]
  obtain ⟨j, e1, e2⟩ := Option.bind_eq_some_iff.mp e
  obtain ⟨v, e3, r⟩ := h.get e2
  exact ⟨v, by rw [e1]; exact e3, r⟩
theorem oo_ix : OpO K (rIxX K) dIx := by
  intro F H vx vy x y z Q s rx ry e k
  unfold dIx at e
  split at e
  · obtain ⟨a, xs, rfl, ha, ra⟩ := Rep.tup_inv rx
    obtain ⟨v, e1, r⟩ := ra.atI e
    exact .inl (.inr ⟨a, xs, _, v, rfl, Rep.int_inv ry, SqT.of (s _ _ ha), e1, k v F H (.refl s) r⟩)
  · obtain ⟨a, xs, rfl, ha, ra⟩ := rx
    obtain ⟨v, e1, r⟩ := ra.atI e
    exact .inl (.inl ⟨a, xs, _, v, rfl, Rep.int_inv ry, .inl ha, e1, k v F H (.refl s) r⟩)
  · rename_i ns i
    obtain ⟨a, rfl, ha⟩ := Rep.scr_inv rx
    obtain ⟨n, e1, e2⟩ := Option.map_eq_some_iff.mp e
    subst e2
    refine .inl (.inl ⟨a, ns.map V.int, i, .int n, rfl, Rep.int_inv ry, s.seq ha, ?_, k _ F H (.refl s) (.int n)⟩)
    unfold L2.atI at e1 ⊢
    obtain ⟨j, e3, e4⟩ := Option.bind_eq_some_iff.mp e1
    rw [List.length_map, e3]
    show (ns.map V.int)[j]? = _
    rw [List.getElem?_map, e4]
    rfl
  · rename_i es i
    obtain ⟨a, kvs, rfl, ha, ra⟩ := rx
    obtain ⟨v, e1, r⟩ := (ra.look i).1 z e
    have ey := Rep.int_inv ry
    subst ey
    exact .inr ⟨a, v, rfl, .inl ⟨kvs, .inl i, ha, rfl, e1.symm⟩, k v F H (.refl s) r⟩
  · cases e
end
section
variable {X : Cx} {b : Bool} {a c e : Expr} {fa fc f : FD} {pos p p2 : Pos} {k : Nat}
theorem de_ix (hr : Room k X.A) (ha : DC X b a fa) (hc : DC X b c fc) (hs : PlainIx c) : DE X b (.Subscript a c pos) (f2 dIx fa fc) := PE.weak (pe_ix (ix_X hr) ha hc hs) fun _ _ _ q => binO_w oo_ix q

/-! ### slices of tuples -/
abbrev FO := En → Option (Option Int)
def tO (K : PySem.W.Frag) (b : Bool) (f : FO) : TO := fun σ H Q => ∃ F ρ om o, EnR K b F σ H ρ om ∧ f ρ = some o ∧ ∀ F' H', Stp F H F' H' → Q o H'
abbrev DO (X : Cx) (b : Bool) (e : Option Expr) (f : FO) : Prop := PO X e (tO X.K b f)
theorem PO.weak {e : Option Expr} {t t' : TO} (h : PO X e t) (w : ∀ σ H Q, t' σ H Q → t σ H Q) : PO X e t' := ⟨fun pins s σ H Q I q => h.run pins s σ H Q I (w σ H Q q)⟩
def oNone : FO := fun _ => some none
def dI : D → Option Int
  | .int i => some i
  | _ => none
def oSome (f : FD) : FO := fun ρ => ((f ρ).bind dI).map some
theorem do_none : DO X b none oNone := PO.weak po_none fun σ H Q ⟨F, ρ, om, o, E, e, k⟩ => by cases e; exact k F H (.refl E.sub)
theorem dI_some {d : D} {i : Int} (h : dI d = some i) : d = .int i := by cases d <;> first | (cases h; rfl) | cases h
theorem do_some (h : DE X b e f) : DO X b (some e) (oSome f) := PO.weak (po_some h) fun σ H Q ⟨F, ρ, om, o, E, e, k⟩ => by
  obtain ⟨i, e1, e2⟩ := Option.map_eq_some_iff.mp e
  obtain ⟨d, e3, e4⟩ := Option.bind_eq_some_iff.mp e1
  have ed := dI_some e4
  subst ed e2
  exact ⟨F, ρ, om, .int i, E, e3, fun v F' H' t r => by cases r; exact ⟨i, rfl, k F' H' t⟩⟩
def cutD (ds : List D) (lo hi : Option Int) : List D := (ds.drop (HT.sIx ds.length 0 lo)).take (HT.sIx ds.length ds.length hi - HT.sIx ds.length 0 lo)
def dSl (lo hi : Option Int) : D → Option D
  | .tup ds => some (.tup (cutD ds lo hi))
  | _ => none
theorem dSl_some {lo hi : Option Int} {d z : D} (h : dSl lo hi d = some z) : ∃ ds, d = .tup ds ∧ z = .tup (cutD ds lo hi) := by
  cases d with
  | tup ds =>
    cases h
    exact ⟨ds, rfl, rfl⟩
  | _ => cases h
def fSl (f : FD) (fl fh : FO) : FD := fun ρ => (f ρ).bind fun d => (fl ρ).bind fun lo => (fh ρ).bind fun hi => dSl lo hi d
theorem cut_whole {α : Type} {xs : List α} {i j : Nat} (h : i = 0 ∧ j = xs.length) : (xs.drop i).take (j - i) = xs := by
  obtain ⟨rfl, rfl⟩ := h
  simp
theorem de_sl {lo hi : Option Expr} {fl fh : FO} (ha : DE X b a fa) (hl : DO X b lo fl) (hh : DO X b hi fh) : DE X b (.Subscript a (.Slice lo hi none p2) pos) (fSl fa fl fh) :=
  PE.weak (pe_slice sl_tupA ha hl hh) fun σ H Q ⟨F, ρ, om, z, E, e, k⟩ => by
    obtain ⟨d, e1, e⟩ := Option.bind_eq_some_iff.mp e
    obtain ⟨l, e2, e⟩ := Option.bind_eq_some_iff.mp e
    obtain ⟨h, e3, e⟩ := Option.bind_eq_some_iff.mp e
    obtain ⟨ds, rfl, rfl⟩ := dSl_some e
    refine ⟨F, ρ, om, _, E, e1, fun v F1 H1 t1 r1 => ⟨F1, ρ, om, l, E.step t1, e2, fun F2 H2 t2 => ⟨F2, ρ, om, h, (E.step t1).step t2, e3, fun F3 H3 t3 => ?_⟩⟩⟩
    obtain ⟨a, xs, rfl, ha, ra⟩ := (r1.same (t2.ff.trans t3.ff)).tup_inv
    have hl := ra.length
    have t := (t1.trans t2).trans t3
    have rc : RepL X.K F3 (cutV xs l h) (cutD ds l h) := by
      unfold cutV cutD
      rw [hl]
      exact (ra.drop _).take _
    refine ⟨a, xs, rfl, SqT.of (t.fh _ _ ha), fun hw => ?_, fun hw p hp => ?_⟩
    · have ec : cutD ds l h = ds := by
        unfold cutD
        rw [hl] at hw
        exact cut_whole hw
      rw [ec] at k
      exact k _ F3 H3 t (.tup ha ra)
    · exact k _ _ _ (t.trans (.new t3.fh hp (fun _ _ z => nomatch z))) (rep_newT t3.fh hp rc)

/-! ### displays, arguments -/
def fAll : List FD → En → Option (List D)
  | [], _ => some []
  | f :: fs, ρ => (f ρ).bind fun d => (fAll fs ρ).bind fun ds => some (d :: ds)
theorem fAll_length : ∀ {l : List FD} {ρ : En} {ds : List D}, fAll l ρ = some ds → ds.length = l.length
  | [], ρ, ds, h => by cases h; rfl
  | f :: fs, ρ, ds, h => by
    obtain ⟨d, e1, h⟩ := Option.bind_eq_some_iff.mp h
    obtain ⟨es, e2, h⟩ := Option.bind_eq_some_iff.mp h
    cases h
    simp [fAll_length e2]
variable {es : List Expr} {l : List FD}
theorem da_nil : DA X b [] (fAll []) := PA.weak pa_nil fun σ H Q ⟨F, ρ, om, ds, E, e, k⟩ => by cases e; exact k [] F H (.refl E.sub) .nil
theorem da_cons (h : DE X b e f) (hr : DA X b es (fAll l)) (hs : starEach (e :: es) X.env = (false, eval e X.env) :: starEach es X.env := by rfl) : DA X b (e :: es) (fAll (f :: l)) := PA.weak (pa_cons h hr hs) fun σ H Q ⟨F, ρ, om, ds, E, e, k⟩ => by
  obtain ⟨d, e1, e⟩ := Option.bind_eq_some_iff.mp e
  obtain ⟨es, e2, e⟩ := Option.bind_eq_some_iff.mp e
  cases e
  exact ⟨F, ρ, om, d, E, e1, fun v F1 H1 t1 r1 => ⟨F1, ρ, om, es, E.step t1, e2, fun vs F2 H2 t2 r2 => k (v :: vs) F2 H2 (t1.trans t2) (.cons (r1.same t2.ff) r2)⟩⟩
def fTup (l : List FD) : FD := fun ρ => (fAll l ρ).map D.tup
def fLst (l : List FD) : FD := fun ρ => (fAll l ρ).map D.lst
theorem de_tup {x1} (h : DA X b es (fAll l)) (hl : l.length ≤ 100000 := by decide) : DE X b (.Tuple es x1 pos) (fTup l) := PE.weak (pe_tup h) fun σ H Q ⟨F, ρ, om, z, E, e, k⟩ => by
  obtain ⟨ds, e1, e⟩ := Option.map_eq_some_iff.mp e
  subst e
  refine ⟨F, ρ, om, ds, E, e1, fun vs F1 H1 t1 r1 => ⟨by rw [r1.length, fAll_length e1]; exact line_of hl, fun p hp => ?_⟩⟩
  exact k _ _ _ (t1.trans (.new t1.fh hp (fun _ _ z => nomatch z))) (rep_newT t1.fh hp r1)
theorem de_lst (h : DA X b es (fAll l)) (hl : l.length ≤ 100000 := by decide) : DE X b (.List es pos) (fLst l) := PE.weak (pe_lst h) fun σ H Q ⟨F, ρ, om, z, E, e, k⟩ => by
  obtain ⟨ds, e1, e⟩ := Option.map_eq_some_iff.mp e
  subst e
  refine ⟨F, ρ, om, ds, E, e1, fun vs F1 H1 t1 r1 => ⟨by rw [r1.length, fAll_length e1]; exact line_of hl, fun p hp => ?_⟩⟩
  exact k _ _ _ (t1.trans (.new t1.fh hp (fun _ _ z => nomatch z))) (rep_newL t1.fh hp r1)
/-- {k: v}, one entry, the key a whole number -/
def fDic1 (fa fc : FD) : FD := fun ρ => (fa ρ).bind fun x => (fc ρ).bind fun y => match x with
  | .int i => some (.dic [(i, y)])
  | _ => none
end
end K32
end
section
set_option Elab.async false
set_option linter.all false
set_option maxRecDepth 100000
set_option maxHeartbeats 4000000
namespace K32
open PySem PySem.Spec PyProof.Rows L2

/-! ### sorted(d), the keys whole numbers -/
theorem ints_at : ∀ {us : List Value} {ks : List Int}, us.length = ks.length → (∀ (j : Nat) (v : Value), us[j]? = some v → ∃ (x : Int) (t : Tok), ks[j]? = some x ∧ v = Value.int x t) → IntsAre us ks
  | [], [], _, _ => .nil
  | [], _ :: _, h, _ => by cases h
  | _ :: _, [], h, _ => by cases h
  | u :: us, k :: ks, hl, h => by
    obtain ⟨x, t, e1, rfl⟩ := h 0 u rfl
    have e2 : k = x := by simpa using e1
    subst e2
    exact .cons _ _ (ints_at (by simpa using hl) fun j v e => by simpa using h (j + 1) v (by simpa using e))
def rSortedK : List V → Hp → VK → Prop := fun xs H Q => ∃ (a : Addr) (kvs : List (Key × V)) (ks : List Int), xs = [.ref a] ∧ Rd H a (.dK kvs) ∧ kvs.map (·.1) = ks.map Sum.inl ∧ ks.length < 64 ∧
    ∀ (ys : List Int) (p : Addr), ys.Perm ks → ys.Pairwise (· ≤ ·) → H p = none → Q (.ref p) (upd H p (.lst (ys.map V.int)))
theorem cr_sortedK {X : Cx} (hcalm : X.calm = true) : CallR X (.builtin "sorted") rSortedK := by
  intro pins s σ H xs us Q I r q
  obtain ⟨a, kvs, ks, ex, hd, hks, h64, q⟩ := q
  subst ex
  obtain ⟨u, eu, rx⟩ := vals1 r
  subst eu
  cases rx
  obtain ⟨z, lo, vs, rel, dd⟩ := dk_rd I.hok hd
  obtain ⟨ep, hat⟩ := dd.dictAt
  have hkeys : vs.map (·.1) = ks.map Sum.inl := rel.keys.symm.trans hks
  have hl : vs.length = ks.length := by
    have e := congrArg List.length hkeys
    rw [List.length_map, List.length_map] at e
    exact e
  have h16 : vs.length ≤ sizeLine := by rw [hl, sizeLine_eq]; omega
  refine Calls.call_function_entry PyProof.Rows.kind_sorted PyProof.Rows.plain_sorted PyProof.Rows.entry_sorted (PyProof.Rows.args_sorted1 _) ?_
  unfold Builtin.«sorted»
  refine wpAny_bind (m := checkCount "sorted" 1 1 _) (wpAny_pure ?_)
  refine wpAny_bind (PySem.W.kdu_collect (A := X.A.in1) (PySem.W.kdl_dict (knd := mixKind X.prog X.w) (kvs := vs) (ep := ep) lo) (I.ok.hd hcalm) hat h16 fun h' tk acc hk hacc => ?_)
  have hal : acc.toList.length = ks.length := by rw [Array.length_toList, hacc.1, hl]
  have hS : IntsAre acc.toList ks := ints_at hal fun j v e => by
    obtain ⟨k, x, e1, e2⟩ := hacc.2 j v (by rw [← Array.getElem?_toList]; exact e)
    have e3 : (vs.map (·.1))[j]? = some k := by rw [List.getElem?_map, e1]; all_goals rfl
    rw [hkeys, List.getElem?_map] at e3
    cases e4 : ks[j]? with
    | none => rw [e4] at e3; cases e3
    | some y =>
      rw [e4] at e3
      have e5 : Sum.inl y = k := Option.some.inj e3
      subst e5
      obtain ⟨t, ev⟩ := Value.isInt_shape (k := y) (v := v) e2
      exact ⟨y, t, rfl, ev⟩
  have I1 : Inv X pins σ H { s with heap := h', toks := tk } := I.kept hk
  refine wpAny_bind (wpAny_newList ?_ (by rw [hal, sizeLine_eq]; omega))
  have hoL : (h'.push (seqObj "list" acc.toList.toArray 0)).get? h'.objs.size = some (seqObj "list" acc.toList.toArray 0) := Heap.get?_push_size _ rfl
  show wpAny _ _ _ _ _ { s with heap := h'.push (seqObj "list" acc.toList.toArray 0), toks := tk }
  refine wpAny_bind (wpAny_holding (wpAny_call_entry PyProof.Rows.slot_list_sort ⟨_, hoL, rfl⟩ PyProof.Rows.entry_list_sort
    (list_sort_tree (s := { s with heap := h'.push (seqObj "list" acc.toList.toArray 0), toks := tk }) hoL hS (by rw [hal]; exact h64) fun out ys g1 g2 g3 => ⟨_, rfl, ?_⟩)
    (PyProof.Rows.args_list_sort _)))
  obtain ⟨e', he'⟩ := PyProof.Rows.sortedHeap_at (vs := acc.toList) (out := out) hoL
  have hlen : (ys.map V.int).length ≤ sizeLine := by
    rw [List.length_map, g2.length_eq]
    exact Nat.le_trans (Nat.le_of_lt h64) (by decide)
  refine wpAny_pure ⟨_, rfl, .ref h'.objs.size, upd H h'.objs.size (.lst (ys.map V.int)), I1.laid (t' := tk) (fun b u e => ?_) (Nat.le_refl _)
    (show ObjOk X.prog X.w _ _ _ (.lst (ys.map V.int)) from ⟨hlen, out.toList, e', vals_of_ints g1, by rw [Array.toArray_toList]; exact he'⟩), rfl, q ys _ g2 g3 (I1.hok.fresh (Nat.le_refl _))⟩
  have hb : b < h'.objs.size := Heap.lt_size e
  rw [PyProof.Rows.sortedHeap_old (Nat.ne_of_lt hb) (by rw [size_push']; exact Nat.lt_succ_of_lt hb)]
  exact Heap.get?_push_of_some _ e

/-! ### the one sorted list -/
def insI (x : Int) : List Int → List Int
  | [] => [x]
  | y :: ys => if x ≤ y then x :: y :: ys else y :: insI x ys
def sortI : List Int → List Int
  | [] => []
  | x :: xs => insI x (sortI xs)
theorem insI_perm (x : Int) : ∀ l, (insI x l).Perm (x :: l)
  | [] => .refl _
  | y :: ys => by
    unfold insI
    split
    · exact .refl _
    · exact ((insI_perm x ys).cons y).trans (.swap x y ys)
theorem sortI_perm : ∀ l, (sortI l).Perm l
  | [] => .refl _
  | x :: xs => (insI_perm x (sortI xs)).trans ((sortI_perm xs).cons x)
theorem insI_sorted (x : Int) : ∀ l, l.Pairwise (· ≤ ·) → (insI x l).Pairwise (· ≤ ·)
  | [], _ => by simp [insI]
  | y :: ys, h => by
    unfold insI
    have h' := List.pairwise_cons.mp h
    split
    · rename_i hx
      refine List.pairwise_cons.mpr ⟨fun z hz => ?_, h⟩
      rcases List.mem_cons.mp hz with rfl | hz
      · exact hx
      · exact Int.le_trans hx (h'.1 z hz)
    · rename_i hx
      refine List.pairwise_cons.mpr ⟨fun z hz => ?_, insI_sorted x ys h'.2⟩
      rcases List.mem_cons.mp ((insI_perm x ys).mem_iff.mp hz) with rfl | hz
      · omega
      · exact h'.1 z hz
theorem sortI_sorted : ∀ l, (sortI l).Pairwise (· ≤ ·)
  | [] => .nil
  | x :: xs => insI_sorted x _ (sortI_sorted xs)
theorem sorted_one : ∀ {l m : List Int}, l.Perm m → l.Pairwise (· ≤ ·) → m.Pairwise (· ≤ ·) → l = m
  | [], m, h, _, _ => by rw [List.nil_perm.mp h]
  | x :: l, m, h, hl, hm => by
    cases m with
    | nil => exact absurd h.symm.length_eq (by simp)
    | cons y m =>
      have e : x = y := by
        have h1 : x ∈ y :: m := h.mem_iff.mp List.mem_cons_self
        have h2 : y ∈ x :: l := h.mem_iff.mpr List.mem_cons_self
        rcases List.mem_cons.mp h1 with e | e1
        · exact e
        · rcases List.mem_cons.mp h2 with e | e2
          · exact e.symm
          · have a := (List.pairwise_cons.mp hm).1 x e1
            have b := (List.pairwise_cons.mp hl).1 y e2
            omega
      subst e
      rw [sorted_one (List.Perm.cons_inv h) (List.pairwise_cons.mp hl).2 (List.pairwise_cons.mp hm).2]
theorem sortI_of {l m : List Int} (h : l.Perm m) (hl : l.Pairwise (· ≤ ·)) : l = sortI m := sorted_one (h.trans (sortI_perm m).symm) hl (sortI_sorted m)

/-! ### calls of built-ins -/
def CallO (K : PySem.W.Frag) (r : List V → Hp → VK → Prop) (dop : D → Option D) : Prop := ∀ F H vx x z (Q : VK), Same F H → RepO K F H vx x → dop x = some z → (∀ v F' H', Stp F H F' H' → Rep K F' v z → Q v H') → r [vx] H Q
section
variable {K : PySem.W.Frag}
def dLen : D → Option D
  | .tup ds => some (.int ds.length)
  | .lst ds => some (.int ds.length)
  | .scr ns => some (.int ns.length)
  | _ => none
theorem co_len : CallO K (fun xs H Q => ∃ p ys, xs = [.ref p] ∧ (SqL K H p ys ∨ SqT K H p ys) ∧ Q (.int ys.length) H) dLen := by
  intro F H vx x z Q s rx e k
  cases x with
  | tup ds =>
    cases e
    obtain ⟨a, xs, rfl, ha, ra⟩ := Rep.tup_inv rx
    refine ⟨a, xs, rfl, .inr (SqT.of (s _ _ ha)), ?_⟩
    rw [ra.length]
    exact k _ F H (.refl s) (.int _)
  | lst ds =>
    cases e
    obtain ⟨a, xs, rfl, ha, ra⟩ := rx
    refine ⟨a, xs, rfl, .inl (.inl ha), ?_⟩
    rw [ra.length]
    exact k _ F H (.refl s) (.int _)
  | scr ns =>
    cases e
    obtain ⟨a, rfl, ha⟩ := Rep.scr_inv rx
    refine ⟨a, _, rfl, .inl (s.seq ha), ?_⟩
    rw [List.length_map]
    exact k _ F H (.refl s) (.int _)
  | _ => cases e
def dTuple : D → Option D
  | .tup ds => some (.tup ds)
  | .lst ds => some (.tup ds)
  | _ => none
theorem co_tuple : CallO K (fun xs H Q => ∃ p ys, xs = [.ref p] ∧ ((SqL K H p ys ∧ ∀ l, H l = none → Q (.ref l) (upd H l (.tup ys))) ∨ (SqT K H p ys ∧ Q (.ref p) H))) dTuple := by
  intro F H vx x z Q s rx e k
  cases x with
  | tup ds =>
    cases e
    obtain ⟨a, xs, rfl, ha, ra⟩ := Rep.tup_inv rx
    exact ⟨a, xs, rfl, .inr ⟨SqT.of (s _ _ ha), k _ F H (.refl s) rx⟩⟩
  | lst ds =>
    cases e
    obtain ⟨a, xs, rfl, ha, ra⟩ := rx
    exact ⟨a, xs, rfl, .inl ⟨.inl ha, fun l hl => k _ _ _ (.new s hl (fun _ _ z => nomatch z)) (rep_newT s hl ra)⟩⟩
  | _ => cases e
def dList : D → Option D
  | .tup ds => some (.lst ds)
  | .lst ds => some (.lst ds)
  | _ => none
theorem co_list : CallO K (fun xs H Q => ∃ p ys, xs = [.ref p] ∧ (SqL K H p ys ∨ SqT K H p ys) ∧ ∀ l, H l = none → Q (.ref l) (upd H l (.lst ys))) dList := by
  intro F H vx x z Q s rx e k
  cases x with
  | tup ds =>
    cases e
    obtain ⟨a, xs, rfl, ha, ra⟩ := Rep.tup_inv rx
    exact ⟨a, xs, rfl, .inr (SqT.of (s _ _ ha)), fun l hl => k _ _ _ (.new s hl (fun _ _ z => nomatch z)) (rep_newL s hl ra)⟩
  | lst ds =>
    cases e
    obtain ⟨a, xs, rfl, ha, ra⟩ := rx
    exact ⟨a, xs, rfl, .inl (.inl ha), fun l hl => k _ _ _ (.new s hl (fun _ _ z => nomatch z)) (rep_newL s hl ra)⟩
  | _ => cases e
def dDict : D → Option D
  | .dic es => some (.dic es)
  | _ => none
theorem co_dict : CallO K (fun xs H Q => ∃ (a : Addr) (kvs : List (Key × V)), xs = [.ref a] ∧ Rd H a (.dK kvs) ∧ ∀ p, H p = none → Q (.ref p) (upd H p (.dK kvs))) dDict := by
  intro F H vx x z Q s rx e k
  cases x with
  | dic ds =>
    cases e
    obtain ⟨a, xs, rfl, ha, ra⟩ := rx
    exact ⟨a, xs, rfl, ha, fun l hl => k _ _ _ (.new s hl (fun _ _ z => nomatch z)) (.dic (.inl upd_same) (ra.same (same_new (s.free hl))))⟩
  | _ => cases e
def dInt : D → Option D
  | .int i => some (.int i)
  | .bl k => some (.int (if k then 1 else 0))
  | _ => none
theorem co_int : CallO K (fun xs H Q => (∃ i, xs = [.int i] ∧ Q (.int i) H) ∨ ∃ k, xs = [.bl k] ∧ Q (.int (if k then 1 else 0)) H) dInt := by
  intro F H vx x z Q s rx e k
  cases x with
  | int i =>
    cases e
    exact .inl ⟨i, by rw [Rep.int_inv rx], k _ F H (.refl s) (.int _)⟩
  | bl i =>
    cases e
    exact .inr ⟨i, by rw [Rep.bl_inv rx], k _ F H (.refl s) (.int _)⟩
  | _ => cases e
def intsD : List D → Option (List Int)
  | [] => some []
  | .int i :: ds => (intsD ds).map (i :: ·)
  | _ => none
theorem intsD_some : ∀ {ds : List D} {ns : List Int}, intsD ds = some ns → ds = ns.map D.int
  | [], ns, h => by cases h; rfl
  | .int i :: ds, ns, h => by
    obtain ⟨ms, e, rfl⟩ := Option.map_eq_some_iff.mp h
    rw [intsD_some e]
    rfl
  | .non :: _, _, h => by cases h
  | .bl _ :: _, _, h => by cases h
  | .str _ :: _, _, h => by cases h
  | .tup _ :: _, _, h => by cases h
  | .lst _ :: _, _, h => by cases h
  | .dic _ :: _, _, h => by cases h
  | .scr _ :: _, _, h => by cases h
theorem intsD_map : ∀ ns : List Int, intsD (ns.map D.int) = some ns
  | [] => rfl
  | n :: ns => by simp [intsD, intsD_map ns]
def bls : List D → Option (List Bool)
  | [] => some []
  | .bl i :: ds => (bls ds).map (i :: ·)
  | _ => none
theorem bls_some : ∀ {ds : List D} {ns : List Bool}, bls ds = some ns → ds = ns.map D.bl
  | [], ns, h => by cases h; rfl
  | .bl i :: ds, ns, h => by
    obtain ⟨ms, e, rfl⟩ := Option.map_eq_some_iff.mp h
    rw [bls_some e]
    rfl
  | .non :: _, _, h => by cases h
  | .int _ :: _, _, h => by cases h
  | .str _ :: _, _, h => by cases h
  | .tup _ :: _, _, h => by cases h
  | .lst _ :: _, _, h => by cases h
  | .dic _ :: _, _, h => by cases h
  | .scr _ :: _, _, h => by cases h
theorem bls_map : ∀ ns : List Bool, bls (ns.map D.bl) = some ns
  | [] => rfl
  | n :: ns => by simp [bls, bls_map ns]
def dAll : D → Option D
  | .lst ds => (bls ds).map fun bs => .bl (bs.all id)
  | _ => none
theorem co_all : CallO K (rAll K) dAll := by
  intro F H vx x z Q s rx e k
  cases x with
  | lst ds =>
    obtain ⟨bs, e1, rfl⟩ := Option.map_eq_some_iff.mp e
    obtain ⟨a, xs, rfl, ha, ra⟩ := rx
    have e2 := bls_some e1
    subst e2
    have e3 := ra.bls_inv
    subst e3
    exact ⟨a, bs, rfl, .inl ha, k _ F H (.refl s) (.bl _)⟩
  | _ => cases e
def maxI : Int → List Int → Int
  | m, [] => m
  | m, x :: xs => maxI (if m < x then x else m) xs
theorem maxI_spec : ∀ (l : List Int) (m : Int), (maxI m l = m ∨ maxI m l ∈ l) ∧ m ≤ maxI m l ∧ ∀ y ∈ l, y ≤ maxI m l
  | [], m => ⟨.inl rfl, Int.le_refl _, fun y hy => by cases hy⟩
  | x :: xs, m => by
    obtain ⟨h1, h2, h3⟩ := maxI_spec xs (if m < x then x else m)
    refine ⟨?_, ?_, fun y hy => ?_⟩
    · show maxI (if m < x then x else m) xs = m ∨ _ ∈ x :: xs
      rcases h1 with h1 | h1
      · by_cases q : m < x
        · right
          show maxI (if m < x then x else m) xs ∈ x :: xs
          rw [h1, if_pos q]
          exact List.mem_cons_self
        · left
          rw [h1, if_neg q]
      · exact .inr (List.mem_cons_of_mem _ h1)
    · show m ≤ maxI (if m < x then x else m) xs
      by_cases q : m < x
      · rw [if_pos q] at h2 ⊢
        omega
      · rw [if_neg q] at h2 ⊢
        exact h2
    · show y ≤ maxI (if m < x then x else m) xs
      rcases List.mem_cons.mp hy with rfl | hy
      · by_cases q : m < y
        · rw [if_pos q] at h2 ⊢
          exact h2
        · rw [if_neg q] at h2 ⊢
          omega
      · exact h3 y hy
def maxL : List Int → Option D
  | [] => none
  | n :: ns => some (.int (maxI n ns))
def dMax : D → Option D
  | .lst ds => (intsD ds).bind maxL
  | _ => none
theorem co_max : CallO K (rMax K) dMax := by
  intro F H vx x z Q s rx e k
  cases x with
  | lst ds =>
    have e0 : (intsD ds).bind maxL = some z := e
    clear e
    obtain ⟨ns, e1, e9⟩ := Option.bind_eq_some_iff.mp e0
    clear e0
    obtain ⟨a, xs, rfl, ha, ra⟩ := rx
    have e2 := intsD_some e1
    subst e2
    have e3 := ra.ints_inv
    subst e3
    cases ns with
    | nil => cases e9
    | cons n ns =>
      cases e9
      refine ⟨a, n :: ns, rfl, .inl ha, Nat.succ_pos _, fun m hm hge => ?_⟩
      obtain ⟨h1, h2, h3⟩ := maxI_spec ns n
      have e4 : m = maxI n ns := by
        have g1 : maxI n ns ≤ m := by
          rcases h1 with h1 | h1
          · rw [h1]; exact hge n List.mem_cons_self
          · exact hge _ (List.mem_cons_of_mem _ h1)
        have g2 : m ≤ maxI n ns := by
          rcases List.mem_cons.mp hm with rfl | hm
          · exact h2
          · exact h3 m hm
        omega
      rw [e4]
      exact k _ F H (.refl s) (.int _)
  | _ => cases e
def dSorted : D → Option D
  | .lst ds => (intsD ds).map fun ns => .lst ((sortI ns).map D.int)
  | .dic es => if es.length < 64 then some (.lst ((sortI (es.map (·.1))).map D.int)) else none
  | _ => none
theorem RepD.keysI {H : Hp} : ∀ {es : List (Int × D)} {kvs : List (Key × V)}, RepD K H kvs es → kvs.map (·.1) = (es.map (·.1)).map Sum.inl
  | [], _, h => by cases h; rfl
  | (j, x) :: es, _, h => by
    cases h with
    | cons q t =>
      simp only [List.map_cons, RepD.keysI t]
theorem co_sorted : CallO K (fun xs H Q => rSortedI K xs H Q ∨ rSortedK xs H Q) dSorted := by
  intro F H vx x z Q s rx e k
  cases x with
  | lst ds =>
    obtain ⟨ns, e1, rfl⟩ := Option.map_eq_some_iff.mp e
    obtain ⟨a, xs, rfl, ha, ra⟩ := rx
    have e2 := intsD_some e1
    subst e2
    have e3 := ra.ints_inv
    subst e3
    refine .inl ⟨a, ns, rfl, .inl ha, fun ns' p h1 h2 hp => ?_⟩
    rw [sortI_of h1 h2]
    exact k _ _ _ (.new s hp (fun _ _ z => nomatch z)) (rep_newL s hp RepL.ints)
  | dic es =>
    obtain ⟨a, xs, rfl, ha, ra⟩ := rx
    have e' : (if es.length < 64 then some (D.lst ((sortI (es.map (·.1))).map D.int)) else none) = some z := e
    split at e'
    · rename_i h64
      cases e'
      refine .inr ⟨a, xs, es.map (·.1), rfl, ha, ra.keysI, by rw [List.length_map]; exact h64, fun ns' p h1 h2 hp => ?_⟩
      rw [sortI_of h1 h2]
      exact k _ _ _ (.new s hp (fun _ _ z => nomatch z)) (rep_newL s hp RepL.ints)
    · cases e'
  | _ => cases e
end
section
variable {X : Cx} {b : Bool} {a c e : Expr} {fa fc f : FD} {pos p p2 : Pos} {k : Nat} {x : Str} {id T : String} {r : List V → Hp → VK → Prop} {dop : D → Option D}
theorem call1_w {K : PySem.W.Frag} (h : CallO K r dop) {σ : L2.St} {H : Hp} {Q : VK} (q : tD K b (f1 dop f) σ H Q) : tCB r (tCons (tC K b f) tNil) σ H Q := by
  obtain ⟨F, ρ, om, z, E, e, k⟩ := q
  obtain ⟨d, e1, e⟩ := Option.bind_eq_some_iff.mp e
  exact ⟨F, ρ, om, d, E, e1, fun v F1 H1 t1 r1 => h F1 H1 v d z Q t1.fh r1 e fun v' F2 H2 t2 r2 => k v' F2 H2 (t1.trans t2) r2⟩
theorem de_b1 (hc : CallR X (.builtin id) r) (h : CallO X.K r dop) (hg : Gl X x) (hm : X.mg x = none) (hv : bootBuiltins x = some (.builtin id)) (ha : DC X b e f) (hs : starEach [e] X.env = (false, eval e X.env) :: starEach [] X.env := by rfl)
    (hn : x ≠ "__name__" := by decide) (hdb : (x == ("__debug__" : Str)) = false := by decide) : DE X b (.Call (.Name x p) [e] [] pos) (f1 dop f) :=
  PE.weak (pe_callB hc hg hm hv (pa_cons ha pa_nil hs) hn hdb hs rfl) fun _ _ _ q => call1_w h q
theorem de_t1 (hc : CallR X (.type T) r) (h : CallO X.K r dop) (hg : Gl X x) (hm : X.mg x = none) (hv : bootBuiltins x = some (.type T)) (ha : DC X b e f) (hs : starEach [e] X.env = (false, eval e X.env) :: starEach [] X.env := by rfl)
    (hn : x ≠ "__name__" := by decide) (hdb : (x == ("__debug__" : Str)) = false := by decide) : DE X b (.Call (.Name x p) [e] [] pos) (f1 dop f) :=
  PE.weak (pe_callTy hc hg hm hv (pa_cons ha pa_nil hs) hn hdb hs rfl) fun _ _ _ q => call1_w h q
theorem cr_sortedX (hc : X.calm = true) : CallR X (.builtin "sorted") (fun xs H Q => rSortedI X.K xs H Q ∨ rSortedK xs H Q) := cr_sortedI.or (cr_sortedK hc)
def dMin : D → D → Option D
  | .int i, .int j => some (.int (if j < i then j else i))
  | _, _ => none
theorem de_min2 (hc : X.calm = true) (hg : Gl X "min") (hm : X.mg "min" = none) (hv : bootBuiltins "min" = some (.builtin "min")) (ha : DE X b a fa) (hcc : DE X b c fc)
    (hs : starEach [a, c] X.env = (false, eval a X.env) :: starEach [c] X.env := by rfl) (hs2 : starEach [c] X.env = (false, eval c X.env) :: starEach [] X.env := by rfl) (hpl : (backTo pos (starEach [c] X.env)).any (·.1) = false := by rfl) : DE X b (.Call (.Name "min" p) [a, c] [] pos) (f2 dMin fa fc) :=
  PE.weak (pe_callB (call_min2 hc) hg hm hv (pa_cons ha (pa_cons hcc pa_nil hs2) hs) (by decide) (by decide) hs hpl) fun σ H Q ⟨F, ρ, om, z, E, e, k⟩ => by
    obtain ⟨x, ex, e⟩ := Option.bind_eq_some_iff.mp e
    obtain ⟨y, ey, e⟩ := Option.bind_eq_some_iff.mp e
    refine ⟨F, ρ, om, x, E, ex, fun vx F1 H1 t1 r1 => ⟨F1, ρ, om, y, E.step t1, ey, fun vy F2 H2 t2 r2 => ?_⟩⟩
    unfold dMin at e
    split at e
    · cases e
      cases r1
      cases r2
      exact ⟨_, _, rfl, k _ F2 H2 (t1.trans t2) (.int _)⟩
    · cases e
theorem de_neg (ha : DE X b a fa) : DE X b (.UnaryOp .USub a pos) (f1 (fun d => (dI d).map fun i => .int (-i)) fa) := PE.weak (pe_un un_neg ha) fun σ H Q ⟨F, ρ, om, z, E, e, k⟩ => by
  obtain ⟨d, e1, e⟩ := Option.bind_eq_some_iff.mp e
  obtain ⟨i, e2, rfl⟩ := Option.map_eq_some_iff.mp e
  have ed := dI_some e2
  subst ed
  refine ⟨F, ρ, om, _, E, e1, fun v F1 H1 t1 r1 => ?_⟩
  cases r1
  exact ⟨i, rfl, k _ F1 H1 t1 (.int _)⟩

/-! ### isinstance(e, T) -/
def tyN : D → Option String
  | .non => some "NoneType"
  | .bl _ => some "bool"
  | .int _ => some "int"
  | .str _ => some "str"
  | .tup _ => some "tuple"
  | .lst _ => some "list"
  | .dic _ => some "dict"
  | .scr _ => none
def dIsi (T : String) (d : D) : Option D := (tyN d).bind fun n => (kitB n T).map D.bl
theorem tyX {K : PySem.W.Frag} {F H : Hp} (s : Same F H) {v : V} {d : D} {n : String} (r : Rep K F v d) (e : tyN d = some n) : TyX K H v (.type n) := by
  cases d with
  | non => cases r; cases e; exact .base .non
  | bl _ => cases r; cases e; exact .base (.bl _)
  | int _ => cases r; cases e; exact .base (.int _)
  | str _ => cases r; cases e; exact .base (.str _)
  | tup _ => cases e; obtain ⟨a, xs, rfl, h, _⟩ := r.tup_inv; exact .base (.tup (s _ _ h))
  | lst _ => cases e; obtain ⟨a, xs, rfl, h, _⟩ := r.lst_inv; exact .base (.lst (s _ _ h))
  | dic _ =>
    cases e
    obtain ⟨a, xs, rfl, h, _⟩ := r.dic_inv
    rcases h with h | ⟨o, h⟩
    · exact .base (.dK (s _ _ h))
    · exact .fDict (s _ _ h)
  | scr _ => cases e
theorem de_isi {y : Str} {py : Pos} (hg : Gl X "isinstance") (hm : X.mg "isinstance" = none) (hv : bootBuiltins "isinstance" = some (.builtin "isinstance")) (hy : PE X (.Name y py) (L2.tC (.ty T))) (ha : DE X b e f)
    (hs : starEach [e, .Name y py] X.env = (false, eval e X.env) :: starEach [.Name y py] X.env := by rfl) : DE X b (.Call (.Name "isinstance" p) [e, .Name y py] [] pos) (f1 (dIsi T) f) :=
  PE.weak (pe_callB call_isi hg hm hv (pa_cons ha (pa_cons hy pa_nil rfl) hs) (by decide) (by decide) hs rfl) fun σ H Q ⟨F, ρ, om, z, E, e, k⟩ => by
    obtain ⟨d, e1, e⟩ := Option.bind_eq_some_iff.mp e
    obtain ⟨n, e2, e⟩ := Option.bind_eq_some_iff.mp e
    obtain ⟨kk, e3, rfl⟩ := Option.map_eq_some_iff.mp e
    exact ⟨F, ρ, om, _, E, e1, fun v F1 H1 t1 r1 => ⟨v, .ty T, .type n, .type T, kk, rfl, .ty T, tyX t1.fh r1 e2, kit_ty e3, k _ F1 H1 t1 (.bl _)⟩⟩

/-! ### d.get -/
def dGetD (w : D) : D → D → Option D
  | .dic es, .int i => some ((dLook es i).getD w)
  | _, _ => none
theorem dGetD_some {w x y z : D} (h : dGetD w x y = some z) : ∃ es i, x = .dic es ∧ y = .int i ∧ z = (dLook es i).getD w := by
  cases x with
  | dic es => cases y with
    | int i => cases h; exact ⟨es, i, rfl, rfl, rfl⟩
    | _ => cases h
  | _ => cases h
def fGet1 (fa fc : FD) : FD := f2 (dGetD .non) fa fc
theorem get_w {K : PySem.W.Frag} {F H : Hp} {es : List (Int × D)} {kvs : List (Key × V)} (r : RepD K F kvs es) (i : Int) {vd : V} {d : D} (rd : Rep K F vd d) : Rep K F ((valV kvs (.inl i)).getD vd) ((dLook es i).getD d) := by
  cases q : dLook es i with
  | none =>
    rw [(r.look i).2 q]
    exact rd
  | some x =>
    obtain ⟨v, e1, r1⟩ := (r.look i).1 x q
    rw [e1]
    exact r1
theorem de_get1 {apos : Pos} (hr : Room k X.A) (ha : DC X b a fa) (hc : DE X b c fc) (m : M1 X a "get" apos c pos) : DE X b (.Call (.Attribute a "get" apos) [c] [] pos) (fGet1 fa fc) :=
  PE.weak (pe_dget1 (hu_of hr) ha hc m) fun σ H Q ⟨F, ρ, om, z, E, e, k⟩ => by
    obtain ⟨x, ex, e⟩ := Option.bind_eq_some_iff.mp e
    obtain ⟨y, ey, e⟩ := Option.bind_eq_some_iff.mp e
    refine ⟨F, ρ, om, x, E, ex, fun vx F1 H1 t1 r1 => ?_⟩
    obtain ⟨es, i, rfl, rfl, rfl⟩ := dGetD_some e
    obtain ⟨l, kvs, rfl, hl, rl⟩ := r1
    refine ⟨l, rfl, .inl ⟨kvs, hl⟩, F1, ρ, om, _, E.step t1, ey, fun vy F2 H2 t2 r2 => ?_⟩
    have ey := r2.int_inv
    subst ey
    exact ⟨_, .inl ⟨kvs, .inl i, rd_same t2.hh hl, rfl, rfl⟩, k _ F2 H2 (t1.trans t2) (get_w (H := H2) (rl.same t2.ff) i .non)⟩
def fGet2 (fa fc fd : FD) : FD := fun ρ => (fa ρ).bind fun x => (fc ρ).bind fun y => (fd ρ).bind fun w => dGetD w x y
theorem de_get2 {apos : Pos} {d : Expr} {fd : FD} (hr : Room k X.A) (ha : DC X b a fa) (hc : DE X b c fc) (hd : DE X b d fd) (m : M2 X a "get" apos c d pos) : DE X b (.Call (.Attribute a "get" apos) [c, d] [] pos) (fGet2 fa fc fd) :=
  PE.weak (pe_dget2 (hu_of hr) ha hc hd m) fun σ H Q ⟨F, ρ, om, z, E, e, k⟩ => by
    obtain ⟨x, ex, e⟩ := Option.bind_eq_some_iff.mp e
    obtain ⟨y, ey, e⟩ := Option.bind_eq_some_iff.mp e
    obtain ⟨w, ew, e⟩ := Option.bind_eq_some_iff.mp e
    refine ⟨F, ρ, om, x, E, ex, fun vx F1 H1 t1 r1 => ?_⟩
    obtain ⟨es, i, rfl, rfl, rfl⟩ := dGetD_some e
    obtain ⟨l, kvs, rfl, hl, rl⟩ := r1
    refine ⟨l, rfl, .inl ⟨kvs, hl⟩, F1, ρ, om, _, E.step t1, ey, fun vy F2 H2 t2 r2 => ⟨F2, ρ, om, w, (E.step t1).step t2, ew, fun vw F3 H3 t3 r3 => ?_⟩⟩
    have ey := r2.int_inv
    subst ey
    exact ⟨_, .inl ⟨kvs, .inl i, rd_same (t2.hh.trans t3.hh) hl, rfl, rfl⟩, k _ F3 H3 ((t1.trans t2).trans t3) (get_w (H := H3) (rl.same (t2.ff.trans t3.ff)) i r3)⟩
end
end K32
end
section
set_option Elab.async false
set_option linter.all false
set_option maxRecDepth 100000
set_option maxHeartbeats 4000000
namespace K32
open PySem PySem.Spec PyProof.Rows L2

/-! ### defs that only reckon -/
/-- the def named x keeps the promise sp -/
def Cal (P : Program) (w : World) (K : PySem.W.Frag) (mg : Str → Option Value) (base : Heap) (x : Str) (ps : List Str) (k : Nat) (sp : Sp) : Prop :=
  ∃ (f : Addr) (fd : FuncData), mg x = some (.ref f) ∧ PySem.W.keepIn K (.ref f) = true ∧ Binds K fd ps [] ∧ FnOk P w K mg base CX0 k f fd ps sp
abbrev CalX (X : Cx) (x : Str) (ps : List Str) (k : Nat) (sp : Sp) : Prop := Cal X.prog X.w X.K X.mg X.base x ps k sp
def NoFrz (F : Hp) : Prop := ∀ a o kvs, F a ≠ some (.frz o (.dK kvs))
/-- a def that only reckons: from data to data -/
def spP (K : PySem.W.Frag) (fn : List D → Option D) : Sp := fun vs H Q _ => ∃ F ds d, Same F H ∧ NoFrz F ∧ RepL K F vs ds ∧ fn ds = some d ∧ ∀ v F' H', Stp F H F' H' → Rep K F' v d → Q v H'
def fCall (fn : List D → Option D) (l : List FD) : FD := fun ρ => (fAll l ρ).bind fn
section
variable {X : Cx} {b : Bool} {a c e : Expr} {es : List Expr} {fa fc f : FD} {l : List FD} {pos p p2 : Pos} {k k' : Nat} {x : Str} {ps : List Str} {fn : List D → Option D}
theorem de_call (C : CalX X x ps k (spP X.K fn)) (hr : Room k' X.A) (hk : k ≤ k') (hg : Gl X x) (ha : DA X true (e :: es) (fAll l)) (hdb : (x == ("__debug__" : Str)) = false := by decide)
    (he : starEach (e :: es) X.env = (false, eval e X.env) :: starEach es X.env := by rfl) (hpl : (backTo pos (starEach es X.env)).any (·.1) = false := by rfl) : DE X true (.Call (.Name x p) (e :: es) [] pos) (fCall fn l) := by
  obtain ⟨fa, fd, hm, hkp, hb, F⟩ := C
  refine PE.weak (pe_call F (hr.mono hk) hg hm hkp hb .nil pass0 ha hdb he hpl) fun σ H Q ⟨F, ρ, om, z, E, e, k⟩ => ?_
  obtain ⟨ds, e1, e⟩ := Option.bind_eq_some_iff.mp e
  refine ⟨F, ρ, om, ds, E, e1, fun vs F1 H1 t1 r1 => ?_⟩
  show spP X.K fn (vs ++ []) H1 Q E0
  rw [List.append_nil]
  exact ⟨F1, ds, z, t1.fh, t1.nf (E.nf rfl).1, r1, e, fun v F2 H2 t2 r2 => k v F2 H2 (t1.trans t2) r2⟩
theorem de_call0 (C : CalX X x ps k (spP X.K fn)) (hr : Room k' X.A) (hk : k ≤ k') (hg : Gl X x) (hdb : (x == ("__debug__" : Str)) = false := by decide) : DE X true (.Call (.Name x p) [] [] pos) (fCall fn []) := by
  obtain ⟨fa, fd, hm, hkp, hb, F⟩ := C
  refine PE.weak (pe_call0 F (hr.mono hk) hg hm hkp hb .nil pass0 hdb) fun σ H Q ⟨F, ρ, om, z, E, e, k⟩ => ?_
  exact ⟨F, [], z, E.sub, (E.nf rfl).1, .nil, e, k⟩

/-! ### what is walked -/
/-- J yields values of the data ds, one behind another -/
def Src (K : PySem.W.Frag) (F : Hp) (J : It) (ds : List D) : Prop := ∀ F2 H2 i, Same F F2 → Same F2 H2 → (∀ d, ds[i]? = some d → J.go i H2 ∧ ∀ x H3, J.yld i H2 x H3 → H3 = H2 ∧ Rep K F2 x d) ∧ (ds.length ≤ i → J.stop i H2)
abbrev FI := En → Option (List D)
def tIt (K : PySem.W.Frag) (b : Bool) (f : FI) : TI := fun σ H R => ∃ F ρ om ds, EnR K b F σ H ρ om ∧ f ρ = some ds ∧ ∀ J F' H', Stp F H F' H' → Src K F' J ds → R J H'
abbrev DI (X : Cx) (b : Bool) (tg e : Expr) (f : FI) : Prop := PI X tg e (tIt X.K b f)
theorem PI.weak {tg : Expr} {t t' : TI} (h : PI X tg e t) (w : ∀ σ H Q, t' σ H Q → t σ H Q) : PI X tg e t' := ⟨fun pins s σ H Q I q => h.run pins s σ H Q I (w σ H Q q)⟩
def lstD : D → Option (List D)
  | .lst ds => some ds
  | _ => none
def tupD : D → Option (List D)
  | .tup ds => some ds
  | _ => none
theorem lstD_some {d : D} {ds : List D} (h : lstD d = some ds) : d = .lst ds := by cases d <;> first | (cases h; rfl) | cases h
theorem tupD_some {d : D} {ds : List D} (h : tupD d = some ds) : d = .tup ds := by cases d <;> first | (cases h; rfl) | cases h
def iL (f : FD) : FI := fun ρ => (f ρ).bind lstD
def iT (f : FD) : FI := fun ρ => (f ρ).bind tupD
theorem len_of_get {α : Type} {l : List α} {i : Nat} {a : α} (h : l[i]? = some a) : i < l.length := (List.getElem?_eq_some_iff.mp h).1
theorem di_list {tg : Expr} (h : DE X b e f) : DI X b tg e (iL f) := PI.weak (pi_list h) fun σ H R ⟨F, ρ, om, ds, E, e, k⟩ => by
  obtain ⟨d, e1, e2⟩ := Option.bind_eq_some_iff.mp e
  have ed := lstD_some e2
  subst ed
  refine ⟨F, ρ, om, _, E, e1, fun v F1 H1 t1 r1 => ?_⟩
  obtain ⟨a, xs, rfl, ha, ra⟩ := r1.lst_inv
  refine ⟨a, rfl, ⟨xs, SqL.of (t1.fh _ _ ha)⟩, k _ F1 H1 t1 fun F2 H2 i s1 s2 => ⟨fun d hd => ?_, fun hi => ?_⟩⟩
  · have h2 : SqL X.K H2 a xs := SqL.of (s2 _ _ (s1 _ _ ha))
    obtain ⟨v, hv, rv⟩ := ra.get hd
    refine ⟨⟨xs, v, h2, hv⟩, fun x H3 y => ⟨y.1, ?_⟩⟩
    have e3 := y.2 xs h2
    rw [hv] at e3
    cases e3
    exact rv.same s1
  · exact ⟨xs, SqL.of (s2 _ _ (s1 _ _ ha)), by rw [ra.length]; exact hi⟩
theorem di_tup {tg : Expr} (h : DE X b e f) : DI X b tg e (iT f) := PI.weak (pi_tup h) fun σ H R ⟨F, ρ, om, ds, E, e, k⟩ => by
  obtain ⟨d, e1, e2⟩ := Option.bind_eq_some_iff.mp e
  have ed := tupD_some e2
  subst ed
  refine ⟨F, ρ, om, _, E, e1, fun v F1 H1 t1 r1 => ?_⟩
  obtain ⟨a, xs, rfl, ha, ra⟩ := r1.tup_inv
  refine ⟨a, rfl, ⟨xs, SqT.of (t1.fh _ _ ha)⟩, k _ F1 H1 t1 fun F2 H2 i s1 s2 => ⟨fun d hd => ?_, fun hi => ?_⟩⟩
  · have h2 : SqT X.K H2 a xs := SqT.of (s2 _ _ (s1 _ _ ha))
    obtain ⟨v, hv, rv⟩ := ra.get hd
    refine ⟨⟨xs, v, h2, hv⟩, fun x H3 y => ⟨y.1, ?_⟩⟩
    have e3 := y.2 xs h2
    rw [hv] at e3
    cases e3
    exact rv.same s1
  · exact ⟨xs, SqT.of (s2 _ _ (s1 _ _ ha)), by rw [ra.length]; exact hi⟩
def rngD (lo c : Int) (n : Nat) : List D := (List.range n).map fun (i : Nat) => D.int (lo + (i : Int) * c)
theorem rngD_length {lo c : Int} {n : Nat} : (rngD lo c n).length = n := by simp [rngD]
theorem rngD_get {lo c : Int} {n i : Nat} {d : D} (h : (rngD lo c n)[i]? = some d) : i < n ∧ d = .int (lo + (i : Int) * c) := by
  have hi := len_of_get h
  rw [rngD_length] at hi
  unfold rngD at h
  rw [List.getElem?_map, List.getElem?_range hi] at h
  exact ⟨hi, (Option.some.inj h).symm⟩
def smallI (i : Int) : Bool := decide (-1000000 ≤ i) && decide (i ≤ 1000000)
def iR1 (f : FD) : FI := fun ρ => ((f ρ).bind dI).bind fun n => if smallI n then some (rngD 0 1 n.toNat) else none
def iR2 (f g : FD) : FI := fun ρ => ((f ρ).bind dI).bind fun i => ((g ρ).bind dI).bind fun j => if smallI i && smallI j then some (rngD i 1 (j - i).toNat) else none
/-- range(i, j, -1) -/
def iR3 (f g : FD) : FI := fun ρ => ((f ρ).bind dI).bind fun i => ((g ρ).bind dI).bind fun j => if smallI i && smallI j then some (rngD i (-1) (i - j).toNat) else none
theorem smallI_ok {i : Int} (h : smallI i = true) : -(2 ^ 62) ≤ i ∧ i < 2 ^ 62 := by
  simp only [smallI, Bool.and_eq_true, decide_eq_true_eq] at h
  omega
theorem bindI {f : FD} {ρ : En} {i : Int} (h : (f ρ).bind dI = some i) : f ρ = some (.int i) := by
  obtain ⟨d, e1, e2⟩ := Option.bind_eq_some_iff.mp h
  rw [e1, dI_some e2]
theorem src_r {K : PySem.W.Frag} {F : Hp} {lo : Int} {n : Nat} : Src K F (Itr lo n) (rngD lo 1 n) := fun F2 H2 i _ _ => ⟨fun d hd => by
  obtain ⟨hi, rfl⟩ := rngD_get hd
  refine ⟨hi, fun x H3 y => ⟨y.1, ?_⟩⟩
  rw [y.2, Int.mul_one]
  exact .int _, fun hi => by rw [rngD_length] at hi; exact hi⟩
theorem src_c {K : PySem.W.Frag} {F : Hp} {lo c : Int} {n : Nat} : Src K F (Itc lo c n) (rngD lo c n) := fun F2 H2 i _ _ => ⟨fun d hd => by
  obtain ⟨hi, rfl⟩ := rngD_get hd
  refine ⟨hi, fun x H3 y => ⟨y.1, ?_⟩⟩
  rw [y.2]
  exact .int _, fun hi => by rw [rngD_length] at hi; exact hi⟩
theorem di_r1 {tg : Expr} (hg : Gl X "range") (hm : X.mg "range" = none) (h : DE X b a f) (hs : starEach [a] X.env = [(false, eval a X.env)] := by rfl) : DI X b tg (.Call (.Name "range" p) [a] [] pos) (iR1 f) :=
  PI.weak (pi_range1 hg hm (pa_cons h pa_nil hs) hs) fun σ H R ⟨F, ρ, om, ds, E, e, k⟩ => by
    obtain ⟨n, e1, e⟩ := Option.bind_eq_some_iff.mp e
    split at e
    · rename_i hn
      cases e
      refine ⟨F, ρ, om, _, E, bindI e1, fun v F1 H1 t1 r1 => ?_⟩
      cases r1
      obtain ⟨h1, h2⟩ := smallI_ok hn
      exact ⟨n, rfl, h1, h2, k _ F1 H1 t1 src_r⟩
    · cases e
theorem di_r2 {tg : Expr} (hg : Gl X "range") (hm : X.mg "range" = none) (h : DE X b a f) (h' : DE X b c fc) (hs : starEach [a, c] X.env = [(false, eval a X.env), (false, eval c X.env)] := by rfl) (hs1 : starEach [a, c] X.env = (false, eval a X.env) :: starEach [c] X.env := by rfl) (hs2 : starEach [c] X.env = [(false, eval c X.env)] := by rfl) :
    DI X b tg (.Call (.Name "range" p) [a, c] [] pos) (iR2 f fc) :=
  PI.weak (pi_range2 hg hm (pa_cons h (pa_cons h' pa_nil hs2) hs1) hs hs2) fun σ H R ⟨F, ρ, om, ds, E, e, k⟩ => by
    obtain ⟨i, e1, e⟩ := Option.bind_eq_some_iff.mp e
    obtain ⟨j, e2, e⟩ := Option.bind_eq_some_iff.mp e
    split at e
    · rename_i hn
      cases e
      obtain ⟨n1, n2⟩ := Bool.and_eq_true_iff.mp hn
      refine ⟨F, ρ, om, _, E, bindI e1, fun v F1 H1 t1 r1 => ⟨F1, ρ, om, _, E.step t1, bindI e2, fun v2 F2 H2 t2 r2 => ?_⟩⟩
      cases r1
      cases r2
      exact ⟨i, j, rfl, ⟨(smallI_ok n1).1, (smallI_ok n1).2, (smallI_ok n2).1, (smallI_ok n2).2⟩, k _ F2 H2 (t1.trans t2) src_r⟩
    · cases e
theorem di_r3 {tg d : Expr} (hg : Gl X "range") (hm : X.mg "range" = none) (h : DE X b a f) (h' : DE X b c fc) (hd : DE X b d (f1 (fun d => (dI d).map fun i => .int (-i)) (fC (.int 1))))
    (hs : starEach [a, c, d] X.env = (false, eval a X.env) :: starEach [c, d] X.env := by rfl) (hs2 : starEach [c, d] X.env = (false, eval c X.env) :: starEach [d] X.env := by rfl) (hs3 : starEach [d] X.env = (false, eval d X.env) :: starEach [] X.env := by rfl) (hpl : (backTo pos (starEach [c, d] X.env)).any (·.1) = false := by rfl) :
    DI X b tg (.Call (.Name "range" p) [a, c, d] [] pos) (iR3 f fc) :=
  PI.weak (pi_range3 hg hm (pa_cons h (pa_cons h' (pa_cons hd pa_nil hs3) hs2) hs) hs hpl) fun σ H R ⟨F, ρ, om, ds, E, e, k⟩ => by
    obtain ⟨i, e1, e⟩ := Option.bind_eq_some_iff.mp e
    obtain ⟨j, e2, e⟩ := Option.bind_eq_some_iff.mp e
    split at e
    · rename_i hn
      cases e
      obtain ⟨n1, n2⟩ := Bool.and_eq_true_iff.mp hn
      refine ⟨F, ρ, om, _, E, bindI e1, fun v F1 H1 t1 r1 => ⟨F1, ρ, om, _, E.step t1, bindI e2, fun v2 F2 H2 t2 r2 => ⟨F2, ρ, om, .int (-1), (E.step t1).step t2, rfl, fun v3 F3 H3 t3 r3 => ?_⟩⟩⟩
      cases r1
      cases r2
      cases r3
      exact ⟨i, j, -1, _, rfl, .neg (smallI_ok n1).1 (smallI_ok n1).2 (smallI_ok n2).1 (smallI_ok n2).2, k _ F3 H3 ((t1.trans t2).trans t3) src_c⟩
    · cases e

/-! ### list comprehensions -/
def compD (ft : En → Option Bool) (fe : FD) (i : Nat) (ρ : En) : List D → Option (List D)
  | [] => some []
  | d :: ds => (ft (ρ.set i (some (.fz d)))).bind fun k => if k then (fe (ρ.set i (some (.fz d)))).bind fun y => (compD ft fe i ρ ds).map (y :: ·) else compD ft fe i ρ ds
def fLc (fi : FI) (ft : En → Option Bool) (fe : FD) (i : Nat) : FD := fun ρ => (fi ρ).bind fun ds => if ds.length ≤ 100000 then (compD ft fe i ρ ds).map D.lst else none
def fYes : En → Option Bool := fun _ => some true
abbrev DTs (X : Cx) (b : Bool) (ifs : List Expr) (f : En → Option Bool) : Prop := PTs X ifs (tT X.K b f)
theorem PTs.weak {ifs : List Expr} {t t' : TT} (h : PTs X ifs t) (w : ∀ σ H Q, t' σ H Q → t σ H Q) : PTs X ifs t' := ⟨fun pins s σ H Q I q => h.run pins s σ H Q I (w σ H Q q)⟩
theorem dts_nil : DTs X b [] fYes := PTs.weak pts_nil fun σ H Q ⟨F, ρ, om, k, E, e, q⟩ => by
  cases e
  exact q F H (.refl E.sub)
theorem dts_one {g : En → Option Bool} (h : DT X b c g) : DTs X b [c] g := pts_one h
/-- the block's environment -/
theorem EnR.blk {K : PySem.W.Frag} {F H : Hp} {σ : L2.St} {ρ : En} {om : Om} (E : EnR K b F σ H ρ om) {i : Nat} {x : V} {d : D} (r : Rep K F x d) :
    EnR K b F ((wipe σ [i]).set i (some x)) H (ρ.set i (some (.fz d))) (fun j => if j = i then [] else om j) where
  sub := E.sub
  len := by simp [wipe_length, E.len]
  sl := fun j s e => by
    by_cases h : j = i
    · subst h
      have hj : j < ρ.length := by
        have := len_of_get e
        simpa using this
      rw [List.getElem?_set_self hj] at e
      cases e
      refine ⟨x, ?_, if_pos rfl, r⟩
      rw [List.getElem?_set_self (by rw [wipe_length, E.len]; exact hj)]
    · rw [List.getElem?_set_ne (fun q => h q.symm)] at e
      obtain ⟨v, e1, q⟩ := E.sl j s e
      refine ⟨v, ?_, by rw [if_neg h]; exact q⟩
      rw [List.getElem?_set_ne (fun q => h q.symm), wipe_out (by simp; exact h)]
      exact e1
  fr := fun j a h => by
    split at h
    · cases h
    · exact E.fr j a h
  th := fun j a h => by
    split at h
    · cases h
    · exact E.th j a h
  nf := fun hb => ⟨(E.nf hb).1, fun j a h => by
    split at h
    · cases h
    · exact (E.nf hb).2 j a h⟩
theorem wipe_back {σ : L2.St} {i : Nat} {x : V} : wipe ((wipe σ [i]).set i (some x)) [i] = wipe σ [i] := by
  show ((σ.set i none).set i (some x)).set i none = σ.set i none
  simp
/-- the words of a comprehension -/
theorem lc_run {K : PySem.W.Frag} {F1 H1 : Hp} {J : It} {ds ys : List D} {σ : L2.St} {ρ : En} {om : Om} {ft : En → Option Bool} {fe : FD} {i : Nat} {Dn : Addr} {Q : VK}
    (hs : Src K F1 J ds) (E : EnR K b F1 σ H1 ρ om) (hl : ds.length ≤ 100000) (hc : compD ft fe i ρ ds = some ys) (hD : H1 Dn = none)
    (k : ∀ F' H', Stp F1 H1 F' H' → Rep K F' (.ref Dn) (.lst ys) → Q (.ref Dn) H') :
    ∃ W : Nat → Nat → Hp → Prop, (∃ m, W 0 m (upd H1 Dn (.lst []))) ∧ ∀ j m H, W j m H →
      (J.stop j H ∧ Q (.ref Dn) H) ∨ (J.go j H ∧ ∃ Nx : Hp → Prop, (∀ H', Nx H' → ∃ m', m' < m ∧ W (j + 1) m' H') ∧ ∀ x H', J.yld j H x H' → gName i x (wipe σ [i]) H' fun σ2 H2 => wipe σ2 [i] = wipe σ [i] ∧ tT K b ft σ2 H2 fun b' H3 =>
        if b' = true then tD K b fe σ2 H3 fun y H4 => ∃ acc, H4 Dn = some (.lst acc) ∧ acc.length < sizeLine ∧ Nx (upd H4 Dn (.lst (acc ++ [y]))) else Nx H3) := by
  -- behind j turns: F frozen, acc at Dn, the rest is to be reckoned
  let W : Nat → Nat → Hp → Prop := fun j m H => m = ds.length - j ∧ j ≤ ds.length ∧ ∃ (F : Hp) (acc : List V) (ys1 ys2 : List D), Stp F1 H1 F H ∧ F Dn = none ∧ H Dn = some (.lst acc) ∧ RepL K F acc ys1 ∧ acc.length ≤ j ∧ compD ft fe i ρ (ds.drop j) = some ys2 ∧ ys = ys1 ++ ys2
  refine ⟨W, ⟨ds.length, rfl, Nat.zero_le _, F1, [], [], ys, .own E.sub hD, E.sub.free hD, upd_same, .nil, Nat.le_refl _, by simpa using hc, rfl⟩, ?_⟩
  rintro j m H ⟨rfl, hj, F, acc, ys1, ys2, t, fD, hDn, ra, hal, hcj, rfl⟩
  obtain ⟨go, stop⟩ := hs F H j t.ff t.fh
  by_cases hlt : j < ds.length
  · refine .inr ?_
    have hd : ds[j]? = some ds[j] := List.getElem?_eq_getElem hlt
    obtain ⟨g1, g2⟩ := go _ hd
    refine ⟨g1, W (j + 1) (ds.length - (j + 1)), fun H' w => ⟨_, by omega, w⟩, fun x H' y => ?_⟩
    obtain ⟨rfl, rx⟩ := g2 x H' y
    have ed : ds.drop j = ds[j] :: ds.drop (j + 1) := List.drop_eq_getElem_cons hlt
    rw [ed] at hcj
    obtain ⟨kk, e1, e2⟩ := Option.bind_eq_some_iff.mp hcj
    refine ⟨wipe_back, F, _, _, kk, (E.step t).blk rx, e1, fun F3 H3 t3 => ?_⟩
    have own3 : F3 Dn = none := t3.nw Dn (by rw [hDn]; exact fun z => nomatch z) fD
    cases kk with
    | true =>
      simp only [if_true] at e2
      obtain ⟨y, e3, e4⟩ := Option.bind_eq_some_iff.mp e2
      obtain ⟨zs, e5, rfl⟩ := Option.map_eq_some_iff.mp e4
      refine iteT ⟨F3, _, _, y, ((E.step t).blk rx).step t3, e3, fun v F4 H4 t4 r4 => ?_⟩
      have h4 : H4 Dn = some (.lst acc) := t4.hh _ _ (t3.hh _ _ hDn)
      have own4 : F4 Dn = none := t4.nw Dn (by rw [t3.hh _ _ hDn]; exact fun z => nomatch z) own3
      refine ⟨acc, h4, Nat.lt_of_le_of_lt hal (Nat.lt_of_lt_of_le hlt (line_of hl)), rfl, hlt, F4, acc ++ [v], ys1 ++ [y], zs, ?_, own4, upd_same, (ra.same (t3.ff.trans t4.ff)).snoc r4, ?_, e5, by simp⟩
      · have tt := (t.trans t3).trans t4
        refine ⟨tt.ff, fun a o h => ?_, fun a o h => ?_, tt.nw, tt.nf⟩
        · rw [upd_ne (ne_of_none h hD)]
          exact tt.hh a o h
        · rw [upd_ne (fun q => by rw [q, own4] at h; cases h)]
          exact tt.fh a o h
      · simp
        omega
    | false =>
      simp only [Bool.false_eq_true, if_false] at e2
      exact iteF ⟨rfl, hlt, F3, acc, ys1, ys2, t.trans t3, own3, t3.hh _ _ hDn, ra.same t3.ff, by omega, e2, rfl⟩
  · have ej : j = ds.length := by omega
    subst ej
    refine .inl ⟨stop (Nat.le_refl _), ?_⟩
    rw [List.drop_length] at hcj
    cases hcj
    rw [List.append_nil] at k
    refine k (upd F Dn (.lst acc)) H ?_ (.lst upd_same (ra.same (same_new fD)))
    refine ⟨t.ff.trans (same_new fD), t.hh, fun a o h => ?_, fun a h1 h2 => ?_, fun n a o kvs e => ?_⟩
    · by_cases q : a = Dn
      · subst q
        rw [upd_same] at h
        cases h
        exact hDn
      · rw [upd_ne q] at h
        exact t.fh a o h
    · rw [upd_ne (fun q => h1 (by rw [q]; exact hD))]
      exact t.nw a h1 h2
    · by_cases q : a = Dn
      · subst q
        rw [upd_same] at e
        cases e
      · rw [upd_ne q] at e
        exact t.nf n a o kvs e
end
end K32
end
section
set_option Elab.async false
set_option linter.all false
set_option maxRecDepth 100000
set_option maxHeartbeats 4000000
namespace K32
open PySem PySem.Spec PyProof.Rows L2
section
variable {X : Cx} {b : Bool} {a c e : Expr} {es : List Expr} {fa fc f : FD} {l : List FD} {pos p p2 : Pos} {k k' : Nat} {x : Str}

theorem lc_w {K : PySem.W.Frag} {fi : FI} {ft : En → Option Bool} {fe : FD} {i : Nat} {σ : L2.St} {H : Hp} {Q : VK} (q : tD K b (fLc fi ft fe i) σ H Q) : tLc (tIt K b fi) (gName i) (tT K b ft) (tD K b fe) [i] σ H Q := by
  obtain ⟨F, ρ, om, z, E, e, k⟩ := q
  obtain ⟨ds, e1, e⟩ := Option.bind_eq_some_iff.mp e
  split at e
  · rename_i hl
    obtain ⟨ys, e2, rfl⟩ := Option.map_eq_some_iff.mp e
    exact ⟨F, ρ, om, ds, E, e1, fun J F1 H1 t1 s1 Dn hD => lc_run s1 (E.step t1) hl e2 hD fun F' H' t r => k _ F' H' (t1.trans t) r⟩
  · cases e
theorem de_lc {elt tg iter : Expr} {ifs : List Expr} {scope : Scope} {y : Str} {i : Nat} {fi : FI} {ft : En → Option Bool} {fe : FD} (hc : X.calm = true) (hN : X.N.Nodup) (hi : DI X b tg iter fi) (ok : BlkOk X.N X.env.scope scope [(y, i)])
    (hg : ∀ (s : Shared) (H : Hp) (C : Addr) (cl : List (Str × Addr)) (fp : List Addr), PG (X.blk s H scope (compEnvC scope cl C X.env) fp) tg (gName i)) (ht : ∀ (s : Shared) (H : Hp) (C : Addr) (cl : List (Str × Addr)) (fp : List Addr), DTs (X.blk s H scope (compEnvC scope cl C X.env) fp) b ifs ft)
    (he : ∀ (s : Shared) (H : Hp) (C : Addr) (cl : List (Str × Addr)) (fp : List Addr), DE (X.blk s H scope (compEnvC scope cl C X.env) fp) b elt fe) (hs : ∀ x, foldedSetIterable iter X.env x = pure x := by intro _; rfl) :
    DE X b (.ListComp elt [⟨tg, iter, ifs, 0⟩] scope pos) (fLc fi ft fe i) := PE.weak (pe_lc (own := [(y, i)]) hc hN hi ok hg ht he hs) fun _ _ _ q => lc_w q

/-! ### statements -/
structure Gs where
  H0 : Hp
  F0 : Hp
  v0 : V
/-- the state at a statement: what stood at the entry (G.H0) is kept, one's own things are new since then and stand apart -/
structure EnW (K : PySem.W.Frag) (G : Gs) (F : Hp) (σ : L2.St) (H : Hp) (ρ : En) (om : Om) : Prop extends EnR K true F σ H ρ om where
  st : Stp G.F0 G.H0 F H
  ow0 : ∀ i a, a ∈ om i → G.H0 a = none
  sep : ∀ i j a, a ∈ om i → a ∈ om j → i = j
  me : ∀ st, ρ[0]? = some (some (.ob st)) → σ[0]? = some (some G.v0)
theorem EnW.step {K : PySem.W.Frag} {G : Gs} {F H F' H' : Hp} {σ : L2.St} {ρ : En} {om : Om} (E : EnW K G F σ H ρ om) (t : Stp F H F' H') : EnW K G F' σ H' ρ om :=
  { E.toEnR.step t with st := E.st.trans t, ow0 := E.ow0, sep := E.sep, me := E.me }
inductive Out where
  | nx (ρ : En) | rt (d : D) (ρ : En) | bk (ρ : En)
abbrev FS := En → Option Out
def OutK (K : PySem.W.Frag) (G : Gs) (Ds : Ends) : Out → Prop
  | .nx ρ' => ∀ F' σ' H' om', EnW K G F' σ' H' ρ' om' → Ds.nx σ' H'
  | .rt d ρ' => ∀ v F' σ' H' om', EnW K G F' σ' H' ρ' om' → Rep K F' v d → Ds.rt v H'
  | .bk ρ' => ∀ F' σ' H' om', EnW K G F' σ' H' ρ' om' → Ds.bk σ' H'
def tS (K : PySem.W.Frag) (g : FS) : TS := fun Ds σ H => ∃ G F ρ om o, EnW K G F σ H ρ om ∧ g ρ = some o ∧ OutK K G Ds o
abbrev DS (X : Cx) (s : Stmt) (g : FS) : Prop := PS X s (tS X.K g)
abbrev DSs (X : Cx) (s : List Stmt) (g : FS) : Prop := PSs X s (tS X.K g)
/-- an expression that may change one's own Draft -/
abbrev FM := En → Option (D × En)
def tM (K : PySem.W.Frag) (f : FM) : TE := fun σ H Q => ∃ G F ρ om d ρ', EnW K G F σ H ρ om ∧ f ρ = some (d, ρ') ∧ ∀ v F' H' om', EnW K G F' σ H' ρ' om' → Rep K F' v d → Q v H'
abbrev DM (X : Cx) (e : Expr) (f : FM) : Prop := PE X e (tM X.K f)
def fM (f : FD) : FM := fun ρ => (f ρ).map fun d => (d, ρ)
theorem DE.m (h : DE X true e f) : DM X e (fM f) := PE.weak h fun σ H Q ⟨G, F, ρ, om, d, ρ', E, e, k⟩ => by
  obtain ⟨d', e1, e2⟩ := Option.map_eq_some_iff.mp e
  cases e2
  exact ⟨F, ρ, om, _, E.toEnR, e1, fun v F' H' t r => k v F' H' om (E.step t) r⟩

variable {s : Stmt} {ss : List Stmt} {g g' : FS} {m : FM}
def gSeq (g g' : FS) : FS := fun ρ => (g ρ).bind fun o => match o with
  | .nx ρ' => g' ρ'
  | o => some o
def gNx : FS := fun ρ => some (.nx ρ)
theorem dss_nil : DSs X [] gNx := PSs.weak pss_nil fun Ds σ H ⟨G, F, ρ, om, o, E, e, k⟩ => by
  cases e
  exact k F σ H om E
theorem dss_cons (h : DS X s g) (hr : DSs X ss g') : DSs X (s :: ss) (gSeq g g') := PSs.weak (pss_cons h hr) fun Ds σ H ⟨G, F, ρ, om, o, E, e, k⟩ => by
  obtain ⟨o1, e1, e2⟩ := Option.bind_eq_some_iff.mp e
  cases o1 with
  | nx ρ1 => exact ⟨G, F, ρ, om, _, E, e1, fun F1 σ1 H1 om1 E1 => ⟨G, F1, ρ1, om1, o, E1, e2, k⟩⟩
  | rt d ρ1 =>
    cases e2
    exact ⟨G, F, ρ, om, _, E, e1, k⟩
  | bk ρ1 =>
    cases e2
    exact ⟨G, F, ρ, om, _, E, e1, k⟩
theorem dss_one (h : DS X s g) : DSs X [s] g := PSs.weak (pss_one h) fun Ds σ H ⟨G, F, ρ, om, o, E, e, k⟩ => by
  cases o with
  | nx ρ1 => exact ⟨G, F, ρ, om, _, E, e, k⟩
  | rt d ρ1 => exact ⟨G, F, ρ, om, _, E, e, k⟩
  | bk ρ1 => exact ⟨G, F, ρ, om, _, E, e, k⟩
theorem ds_pass : DS X (.Pass pos) gNx := PS.weak ps_pass fun Ds σ H ⟨G, F, ρ, om, o, E, e, k⟩ => by
  cases e
  exact k F σ H om E
def gBk : FS := fun ρ => some (.bk ρ)
theorem ds_break : DS X (.Break pos) gBk := PS.weak ps_break fun Ds σ H ⟨G, F, ρ, om, o, E, e, k⟩ => by
  cases e
  exact k F σ H om E
/-- never reached -/
def gNo : FS := fun _ => none
theorem ds_never : DS X s gNo := PS.weak ps_never fun Ds σ H ⟨G, F, ρ, om, o, E, e, k⟩ => by cases e
theorem dss_never : DSs X ss gNo := PSs.weak pss_never fun Ds σ H ⟨G, F, ρ, om, o, E, e, k⟩ => by cases e
def gIf (t : En → Option Bool) (g g' : FS) : FS := fun ρ => (t ρ).bind fun k => if k then g ρ else g' ρ
theorem ds_if {t : En → Option Bool} {ss' : List Stmt} (hc : DT X true c t) (h : DSs X ss g) (h' : DSs X ss' g') : DS X (.If c ss ss' pos) (gIf t g g') := PS.weak (ps_if hc h h') fun Ds σ H ⟨G, F, ρ, om, o, E, e, k⟩ => by
  obtain ⟨kk, e1, e2⟩ := Option.bind_eq_some_iff.mp e
  refine ⟨F, ρ, om, kk, E.toEnR, e1, fun F1 H1 t1 => ?_⟩
  cases kk with
  | true => exact iteT ⟨G, F1, ρ, om, o, E.step t1, by simpa using e2, k⟩
  | false => exact iteF ⟨G, F1, ρ, om, o, E.step t1, by simpa using e2, k⟩
/-! a value is stored -/
def sFz (i : Nat) (d : D) (ρ : En) : En := ρ.set i (some (.fz d))
theorem EnW.fz {K : PySem.W.Frag} {G : Gs} {F H : Hp} {σ : L2.St} {ρ : En} {om : Om} (E : EnW K G F σ H ρ om) (i : Nat) {v : V} {d : D} (r : Rep K F v d) :
    EnW K G F (σ.set i (some v)) H (sFz i d ρ) (fun j => if j = i then [] else om j) where
  sub := E.sub
  len := by simp [sFz, E.len]
  sl := fun j s e => by
    unfold sFz at e
    by_cases h : j = i
    · subst h
      have hj : j < ρ.length := by
        have := len_of_get e
        simpa using this
      rw [List.getElem?_set_self hj] at e
      cases e
      refine ⟨v, ?_, if_pos rfl, r⟩
      rw [List.getElem?_set_self (by rw [E.len]; exact hj)]
    · rw [List.getElem?_set_ne (fun q => h q.symm)] at e
      obtain ⟨v', e1, q⟩ := E.sl j s e
      refine ⟨v', ?_, by rw [if_neg h]; exact q⟩
      rw [List.getElem?_set_ne (fun q => h q.symm)]
      exact e1
  fr := fun j a h => by
    split at h
    · cases h
    · exact E.fr j a h
  th := fun j a h => by
    split at h
    · cases h
    · exact E.th j a h
  nf := fun hb => ⟨(E.nf hb).1, fun j a h => by
    split at h
    · cases h
    · exact (E.nf hb).2 j a h⟩
  st := E.st
  ow0 := fun j a h => by
    split at h
    · cases h
    · exact E.ow0 j a h
  sep := fun i' j a h1 h2 => by
    split at h1
    · cases h1
    · split at h2
      · cases h2
      · exact E.sep i' j a h1 h2
  me := fun st e => by
    unfold sFz at e
    by_cases h : i = 0
    · subst h
      by_cases hl : 0 < ρ.length
      · rw [List.getElem?_set_self hl] at e
        cases e
      · rw [List.getElem?_eq_none (by simpa using hl)] at e
        cases e
    · rw [List.getElem?_set_ne h] at e ⊢
      exact E.me st e
def gSet (i : Nat) (m : FM) : FS := fun ρ => (m ρ).bind fun q => some (.nx (sFz i q.1 q.2))
theorem set_w {K : PySem.W.Frag} {i : Nat} {te : TE} (h : ∀ σ H Q, tM K m σ H Q → te σ H Q) {Ds : Ends} {σ : L2.St} {H : Hp} (q : tS K (gSet i m) Ds σ H) : tAsg te (gName i) Ds σ H := by
  obtain ⟨G, F, ρ, om, o, E, e, k⟩ := q
  obtain ⟨⟨d, ρ1⟩, e1, e2⟩ := Option.bind_eq_some_iff.mp e
  cases e2
  exact h σ H _ ⟨G, F, ρ, om, d, ρ1, E, e1, fun v F1 H1 om1 E1 r1 => k F1 _ H1 _ (E1.fz i r1)⟩
theorem ds_set {i : Nat} {pos' : Pos} (hN : X.N.Nodup) (hi : X.N[i]? = some x) (hx : Loc X.env.scope x) (he : DM X e m) (hs : swapsWith e (some (.Name x pos')) pos.line X.env = pure false := by rfl) (hf : X.fn x = true ∨ X.env.scope.names.lookup x = some .local := by first | exact .inl rfl | exact .inr rfl | assumption) :
    DS X (.Assign [.Name x pos'] e pos) (gSet i m) := PS.weak (ps_set hN hi hx he hs hf) fun _ _ _ q => set_w (fun _ _ _ q => q) q
/-- name = [..] on one line -/
theorem ds_setLc {elt tg iter : Expr} {ifs : List Expr} {scope : Scope} {y z : Str} {i j : Nat} {py spos : Pos} {fi : FI} {ft : En → Option Bool} {fe : FD} (hc : X.calm = true) (hN : X.N.Nodup) (hy : X.N[j]? = some z) (hyl : X.env.scope.names.lookup z = some .local)
    (hsw : swapsWith (.ListComp elt [⟨tg, iter, ifs, 0⟩] scope pos) (some (.Name z py)) spos.line X.env = pure true) (hi : DI X true tg iter fi) (ok : BlkOk X.N X.env.scope scope [(y, i)])
    (hg : ∀ (s : Shared) (H : Hp) (C : Addr) (cl : List (Str × Addr)) (fp : List Addr), PG (X.blk s H scope (compEnvC scope cl C X.env) fp) tg (gName i)) (ht : ∀ (s : Shared) (H : Hp) (C : Addr) (cl : List (Str × Addr)) (fp : List Addr), DTs (X.blk s H scope (compEnvC scope cl C X.env) fp) true ifs ft)
    (he : ∀ (s : Shared) (H : Hp) (C : Addr) (cl : List (Str × Addr)) (fp : List Addr), DE (X.blk s H scope (compEnvC scope cl C X.env) fp) true elt fe) (hs : ∀ x, foldedSetIterable iter X.env x = pure x := by intro _; rfl) :
    DS X (.Assign [.Name z py] (.ListComp elt [⟨tg, iter, ifs, 0⟩] scope pos) spos) (gSet j (fM (fLc fi ft fe i))) :=
  PS.weak (ps_setLc (own := [(y, i)]) hc hN hy hyl hsw hi ok hg ht he hs) fun _ _ _ q => set_w (fun σ H Q ⟨G, F, ρ, om, d, ρ', E, e, k⟩ => lc_w (by
    obtain ⟨d', e1, e2⟩ := Option.map_eq_some_iff.mp e
    cases e2
    exact ⟨F, ρ, om, _, E.toEnR, e1, fun v F' H' t r => k v F' H' om (E.step t) r⟩)) q
/-! an expression whose value is dropped -/
def gDrop (m : FM) : FS := fun ρ => (m ρ).bind fun q => some (.nx q.2)
theorem ds_expr (he : DM X e m) (hs : swapsWith e none pos.line X.env = pure false := by rfl) : DS X (.Expr e pos) (gDrop m) := PS.weak (ps_expr he hs) fun Ds σ H ⟨G, F, ρ, om, o, E, e, k⟩ => by
  obtain ⟨⟨d, ρ1⟩, e1, e2⟩ := Option.bind_eq_some_iff.mp e
  cases e2
  exact ⟨G, F, ρ, om, d, ρ1, E, e1, fun v F1 H1 om1 E1 r1 => k F1 σ H1 om1 E1⟩

/-! ### return: one's own lists and dicts become data -/
def frz : Sl → Sl
  | .ol ds => .fz (.lst ds)
  | .od es => .fz (.dic es)
  | s => s
def frzE (ρ : En) : En := ρ.map (Option.map frz)
def isOb : Option (Option Sl) → Bool
  | some (some (.ob _)) => true
  | _ => false
theorem EnW.frz {K : PySem.W.Frag} {G : Gs} {F H : Hp} {σ : L2.St} {ρ : En} {om : Om} (E : EnW K G F σ H ρ om) : ∃ F' om', EnW K G F' σ H (frzE ρ) om' := by
  classical
  -- the addresses that become data
  let T : Addr → Prop := fun a => ∃ i s, ρ[i]? = some (some s) ∧ (∀ st, s ≠ .ob st) ∧ a ∈ om i
  let F' : Hp := fun a => if T a then H a else F a
  let om' : Om := fun i => if isOb ρ[i]? then om i else []
  have ff : Same F F' := fun a o h => by
    by_cases q : T a
    · obtain ⟨i, s, _, _, hm⟩ := q
      rw [E.fr i a hm] at h
      cases h
    · show (if T a then H a else F a) = some o
      rw [if_neg q]
      exact h
  have fh : Same F' H := fun a o h => by
    by_cases q : T a
    · have h2 : (if T a then H a else F a) = some o := h
      rw [if_pos q] at h2
      exact h2
    · have h2 : (if T a then H a else F a) = some o := h
      rw [if_neg q] at h2
      exact E.sub a o h2
  have fT : ∀ a, T a → F' a = H a := fun a q => if_pos q
  have omT : ∀ i a, a ∈ om' i → a ∈ om i ∧ ¬ T a := fun i a h => by
    by_cases q : isOb ρ[i]? = true
    · have h2 : a ∈ (if isOb ρ[i]? then om i else []) := h
      rw [if_pos q] at h2
      refine ⟨h2, fun ⟨j, s, hj, hs, hm⟩ => ?_⟩
      have e := E.sep i j a h2 hm
      subst e
      rw [hj] at q
      cases s with
      | ob st => exact hs st rfl
      | _ => cases q
    · have h2 : a ∈ (if isOb ρ[i]? then om i else []) := h
      rw [if_neg q] at h2
      cases h2
  have nf' : ∀ a o kvs, F' a ≠ some (.frz o (.dK kvs)) := fun a o kvs h => by
    by_cases q : T a
    · rw [fT a q] at h
      obtain ⟨i, s, _, _, hm⟩ := q
      exact (E.nf rfl).2 i a hm o _ h
    · have h2 : (if T a then H a else F a) = some (HO.frz o (.dK kvs)) := h
      rw [if_neg q] at h2
      exact (E.nf rfl).1 a o kvs h2
  refine ⟨F', om', { sub := fh, len := by simp [frzE, E.len], sl := fun i s e => ?_, fr := fun i a h => ?_, th := fun i a h => E.th i a (omT i a h).1, nf := fun _ => ⟨nf', fun i a h => (E.nf rfl).2 i a (omT i a h).1⟩, st := ?_, ow0 := fun i a h => E.ow0 i a (omT i a h).1, sep := fun i j a h1 h2 => E.sep i j a (omT i a h1).1 (omT j a h2).1, me := fun st e => ?_ }⟩
  · unfold frzE at e
    rw [List.getElem?_map] at e
    obtain ⟨so, e1, e2⟩ := Option.map_eq_some_iff.mp e
    cases so with
    | none => cases e2
    | some s1 =>
      cases e2
      obtain ⟨v, ev, hs⟩ := E.sl i s1 e1
      refine ⟨v, ev, ?_⟩
      have oi : isOb ρ[i]? = isOb (some (some s1)) := by rw [e1]
      cases s1 with
      | fz d =>
        refine ⟨?_, hs.2.same ff⟩
        show (if isOb ρ[i]? then om i else []) = []
        rw [oi]
        rfl
      | ol ds =>
        obtain ⟨l, xs, rfl, eo, hl, r⟩ := hs
        refine ⟨?_, ?_⟩
        · show (if isOb ρ[i]? then om i else []) = []
          rw [oi]
          rfl
        · have hT : T l := ⟨i, Sl.ol ds, e1, (fun st z => by cases z), by rw [eo]; exact List.mem_singleton.mpr rfl⟩
          refine .lst (xs := xs) ?_ (r.same ff)
          rw [fT l hT]
          rcases hl with hl | ⟨o, hl⟩
          · exact hl
          · exact absurd hl ((E.nf rfl).2 i l (by rw [eo]; exact List.mem_singleton.mpr rfl) o _)
      | od ds =>
        obtain ⟨l, xs, rfl, eo, hl, r⟩ := hs
        refine ⟨?_, ?_⟩
        · show (if isOb ρ[i]? then om i else []) = []
          rw [oi]
          rfl
        · have hT : T l := ⟨i, Sl.od ds, e1, (fun st z => by cases z), by rw [eo]; exact List.mem_singleton.mpr rfl⟩
          refine .dic (kvs := xs) (.inl ?_) (r.same ff)
          rw [fT l hT]
          rcases hl with hl | ⟨o, hl⟩
          · exact hl
          · exact absurd hl ((E.nf rfl).2 i l (by rw [eo]; exact List.mem_singleton.mpr rfl) o _)
      | ob st =>
        have eo : om' i = om i := by
          show (if isOb ρ[i]? then om i else []) = om i
          rw [oi]
          rfl
        rw [eo]
        exact hs.step ff (.refl _)
  · obtain ⟨h1, h2⟩ := omT i a h
    show (if T a then H a else F a) = none
    rw [if_neg h2]
    exact E.fr i a h1
  · refine ⟨E.st.ff.trans ff, E.st.hh, fh, fun a h1 h2 => ?_, fun _ => nf'⟩
    show (if T a then H a else F a) = none
    by_cases q : T a
    · obtain ⟨i, s, _, _, hm⟩ := q
      exact absurd (E.ow0 i a hm) h1
    · rw [if_neg q]
      exact E.st.nw a h1 h2
  · refine E.me (by
      unfold frzE at e
      rw [List.getElem?_map] at e
      exact st) ?_
    unfold frzE at e
    rw [List.getElem?_map] at e
    obtain ⟨so, e1, e2⟩ := Option.map_eq_some_iff.mp e
    cases so with
    | none => cases e2
    | some s1 => cases s1 <;> first | (cases e2; exact e1) | cases e2
def gRet (m : FM) : FS := fun ρ => (m (frzE ρ)).bind fun q => some (.rt q.1 q.2)
theorem ds_ret (he : DM X e m) : DS X (.Return (some e) pos) (gRet m) := PS.weak (ps_ret he) fun Ds σ H ⟨G, F, ρ, om, o, E, e, k⟩ => by
  obtain ⟨⟨d, ρ1⟩, e1, e2⟩ := Option.bind_eq_some_iff.mp e
  cases e2
  obtain ⟨F', om', E'⟩ := E.frz
  exact ⟨G, F', _, om', d, ρ1, E', e1, fun v F1 H1 om1 E1 r1 => k v F1 σ H1 om1 E1 r1⟩
end
end K32
end
section
set_option Elab.async false
set_option linter.all false
set_option maxRecDepth 100000
set_option maxHeartbeats 4000000
namespace K32
open PySem PySem.Spec PyProof.Rows L2
section
variable {X : Cx} {b : Bool} {a c e : Expr} {es : List Expr} {fa fc f : FD} {l : List FD} {pos p p2 : Pos} {k k' : Nat} {x y z : Str} {s : Stmt} {ss : List Stmt} {g g' : FS} {m : FM}

/-! ### a, b, .. = a tuple -/
def gNs : List Nat → TGs
  | [] => gNil
  | i :: is => gCons (gName i) (gNs is)
theorem dg_nil : PGs X [] (gNs []) := pgs_nil
theorem dg_cons {i : Nat} {is : List Nat} (h1 : PG X e (gName i)) (h2 : PGs X es (gNs is)) (hs : (assignEach (e :: es) X.env).map (·.2) = assign e X.env :: (assignEach es X.env).map (·.2) := by rfl) : PGs X (e :: es) (gNs (i :: is)) := pgs_cons h1 h2 hs
def setNs : List Nat → List D → En → En
  | i :: is, d :: ds, ρ => setNs is ds (sFz i d ρ)
  | _, _, ρ => ρ
def bTup (is : List Nat) (d : D) (ρ : En) : Option En := (tupD d).bind fun ds => if ds.length = is.length then some (setNs is ds ρ) else none
theorem gNs_w {K : PySem.W.Frag} {G : Gs} {F H : Hp} {Q : L2.St → Hp → Prop} : ∀ {is : List Nat} {ds : List D} {vs : List V} {σ : L2.St} {ρ : En} {om : Om}, EnW K G F σ H ρ om → RepL K F vs ds → ds.length = is.length →
    (∀ σ' om', EnW K G F σ' H (setNs is ds ρ) om' → Q σ' H) → gNs is vs σ H Q
  | [], ds, vs, σ, ρ, om, E, r, hl, k => by
    cases ds with
    | nil => cases r; exact ⟨rfl, k σ om E⟩
    | cons d ds => cases hl
  | i :: is, ds, vs, σ, ρ, om, E, r, hl, k => by
    cases ds with
    | nil => cases hl
    | cons d ds =>
      cases r with
      | cons r t => exact ⟨_, _, rfl, gNs_w (E.fz i r) t (by simpa using hl) k⟩
def gUn (is : List Nat) (m : FM) : FS := fun ρ => (m ρ).bind fun q => (bTup is q.1 q.2).map .nx
theorem un_w {K : PySem.W.Frag} {is : List Nat} {n : Nat} (hn : n = is.length) {te : TE} (h : ∀ σ H Q, tM K m σ H Q → te σ H Q) {Ds : Ends} {σ : L2.St} {H : Hp} (q : tS K (gUn is m) Ds σ H) : tAsg te (gTup K n (gNs is)) Ds σ H := by
  obtain ⟨G, F, ρ, om, o, E, e, k⟩ := q
  obtain ⟨⟨d, ρ1⟩, e1, e2⟩ := Option.bind_eq_some_iff.mp e
  obtain ⟨ρ2, e3, rfl⟩ := Option.map_eq_some_iff.mp e2
  obtain ⟨ds, e4, e5⟩ := Option.bind_eq_some_iff.mp e3
  have ed : d = .tup ds := tupD_some e4
  subst ed
  split at e5
  · rename_i hl
    cases e5
    refine h σ H _ ⟨G, F, ρ, om, _, ρ1, E, e1, fun v F1 H1 om1 E1 r1 => ?_⟩
    obtain ⟨a, xs, rfl, ha, ra⟩ := r1.tup_inv
    exact ⟨a, xs, rfl, SqT.of (E1.sub _ _ ha), by rw [ra.length, hl, hn], gNs_w E1 ra hl fun σ' om' E' => k F1 σ' H1 om' E'⟩
  · cases e5
theorem ds_un {is : List Nat} {k1 : Nat} {tp : Pos} (hc : X.calm = true) (he : DM X e m) (hg : PGs X es (gNs is)) (hn : (assignEach es X.env).length = is.length := by rfl) (hst : (assignEach es X.env).findIdx? (·.1) = none := by rfl)
    (hs : swapsWithSole [.Tuple es k1 tp] e pos.line X.env = pure false := by rfl) (hw : swappedStores [.Tuple es k1 tp] e X.env = pure none := by rfl)
    (h1 : (assignEach [.Tuple es k1 tp] X.env).map (·.2) = [assign (.Tuple es k1 tp) X.env] := by rfl) : DS X (.Assign [.Tuple es k1 tp] e pos) (gUn is m) :=
  PS.weak (ps_asg he (pg_tup hc hg hn hst) hs hw h1) fun _ _ _ q => un_w rfl (fun _ _ _ q => q) q
/-- a, b = x, y -/
theorem ds_par2 {i j : Nat} {px py pt : Pos} {kt k2 pt2} (hc : X.calm = true) (hN : X.N.Nodup) (hi : X.N[i]? = some x) (hj : X.N[j]? = some y) (hij : i ≠ j) (hx : X.env.scope.names.lookup x = some .local) (hy : X.env.scope.names.lookup y = some .local)
    (ha : DA X true [a, c] (fAll [fa, fc])) (hw : swappedStores [.Tuple [.Name x px, .Name y py] kt pt] (.Tuple [a, c] k2 pt2) X.env = pure (some [x, y])) (hs : swapsWithSole [.Tuple [.Name x px, .Name y py] kt pt] (.Tuple [a, c] k2 pt2) pos.line X.env = pure false := by rfl) :
    DS X (.Assign [.Tuple [.Name x px, .Name y py] kt pt] (.Tuple [a, c] k2 pt2) pos) (gUn [i, j] (fM (fTup [fa, fc]))) := PS.weak (ps_par hc hN hi hj hij hx hy ha hw hs) fun Ds σ H ⟨G, F, ρ, om, o, E, e, k⟩ => by
  obtain ⟨⟨d, ρ1⟩, e1, e2⟩ := Option.bind_eq_some_iff.mp e
  obtain ⟨ρ2, e3, rfl⟩ := Option.map_eq_some_iff.mp e2
  obtain ⟨d', e6, e7⟩ := Option.map_eq_some_iff.mp e1
  cases e7
  obtain ⟨ds, e8, rfl⟩ := Option.map_eq_some_iff.mp e6
  have hl := fAll_length e8
  refine ⟨F, ρ, om, ds, E.toEnR, e8, fun vs F1 H1 t1 r1 => ?_⟩
  match ds, hl, vs, r1, e3 with
  | [d1, d2], _, [v1, v2], .cons r (.cons r' .nil), e3 =>
    cases e3
    exact ⟨v1, v2, rfl, k F1 _ H1 _ (((E.step t1).fz i r).fz j r')⟩
theorem ds_par3 {w : Expr} {fw : FD} {i j n : Nat} {px py pz pt : Pos} {kt k2 pt2} (hc : X.calm = true) (hN : X.N.Nodup) (hi : X.N[i]? = some x) (hj : X.N[j]? = some y) (hl : X.N[n]? = some z) (hij : i ≠ j) (hil : i ≠ n) (hjl : j ≠ n) (hx : X.env.scope.names.lookup x = some .local) (hy : X.env.scope.names.lookup y = some .local)
    (hz : X.env.scope.names.lookup z = some .local) (ha : DA X true [a, c, w] (fAll [fa, fc, fw])) (hw : swappedStores [.Tuple [.Name x px, .Name y py, .Name z pz] kt pt] (.Tuple [a, c, w] k2 pt2) X.env = pure (some [x, y, z])) (hs : swapsWithSole [.Tuple [.Name x px, .Name y py, .Name z pz] kt pt] (.Tuple [a, c, w] k2 pt2) pos.line X.env = pure false := by rfl) :
    DS X (.Assign [.Tuple [.Name x px, .Name y py, .Name z pz] kt pt] (.Tuple [a, c, w] k2 pt2) pos) (gUn [i, j, n] (fM (fTup [fa, fc, fw]))) := PS.weak (ps_par3 hc hN hi hj hl hij hil hjl hx hy hz ha hw hs) fun Ds σ H ⟨G, F, ρ, om, o, E, e, k⟩ => by
  obtain ⟨⟨d, ρ1⟩, e1, e2⟩ := Option.bind_eq_some_iff.mp e
  obtain ⟨ρ2, e3, rfl⟩ := Option.map_eq_some_iff.mp e2
  obtain ⟨d', e6, e7⟩ := Option.map_eq_some_iff.mp e1
  cases e7
  obtain ⟨ds, e8, rfl⟩ := Option.map_eq_some_iff.mp e6
  have hl := fAll_length e8
  refine ⟨F, ρ, om, ds, E.toEnR, e8, fun vs F1 H1 t1 r1 => ?_⟩
  match ds, hl, vs, r1, e3 with
  | [d1, d2, d3], _, [v1, v2, v3], .cons r (.cons r' (.cons r3 .nil)), e3 =>
    cases e3
    exact ⟨v1, v2, v3, rfl, k F1 _ H1 _ ((((E.step t1).fz i r).fz j r').fz n r3)⟩

/-! ### for -/
def loopS (bind : D → En → Option En) (body : FS) : List D → En → Option Out
  | [], ρ => some (.nx ρ)
  | d :: ds, ρ => (bind d ρ).bind fun ρ1 => (body ρ1).bind fun o => match o with
    | .nx ρ2 => loopS bind body ds ρ2
    | .rt d ρ2 => some (.rt d ρ2)
    | .bk ρ2 => some (.nx ρ2)
def gFor (fi : FI) (bind : D → En → Option En) (body : FS) : FS := fun ρ => (fi ρ).bind fun ds => loopS bind body ds ρ
def bName (i : Nat) : D → En → Option En := fun d ρ => some (sFz i d ρ)
/-- a target of data -/
def TgOk (K : PySem.W.Frag) (t : TG) (bind : D → En → Option En) : Prop := ∀ G F σ H ρ om v d ρ' (Q : L2.St → Hp → Prop), EnW K G F σ H ρ om → Rep K F v d → bind d ρ = some ρ' → (∀ σ' om', EnW K G F σ' H ρ' om' → Q σ' H) → t v σ H Q
theorem tg_name {K : PySem.W.Frag} (i : Nat) : TgOk K (gName i) (bName i) := fun G F σ H ρ om v d ρ' Q E r e k => by
  cases e
  exact k _ _ (E.fz i r)
theorem tg_tup {K : PySem.W.Frag} {is : List Nat} {n : Nat} (hn : n = is.length) : TgOk K (gTup K n (gNs is)) (bTup is) := fun G F σ H ρ om v d ρ' Q E r e k => by
  obtain ⟨ds, e4, e5⟩ := Option.bind_eq_some_iff.mp e
  have ed : d = .tup ds := tupD_some e4
  subst ed
  split at e5
  · rename_i hl
    cases e5
    obtain ⟨a, xs, rfl, ha, ra⟩ := r.tup_inv
    exact ⟨a, xs, rfl, SqT.of (E.sub _ _ ha), by rw [ra.length, hl, hn], gNs_w E ra hl k⟩
  · cases e5
theorem EnW.base {K : PySem.W.Frag} {G : Gs} {F1 H1 F H : Hp} {σ : L2.St} {ρ : En} {om : Om} (t : Stp G.F0 G.H0 F1 H1) (E : EnW K ⟨G.H0, F1, G.v0⟩ F σ H ρ om) : EnW K G F σ H ρ om :=
  { E.toEnR with st := ⟨t.ff.trans E.st.ff, E.st.hh, E.st.fh, fun a h1 h2 => E.st.nw a h1 (t.nw a h1 h2), fun _ => (E.nf rfl).1⟩, ow0 := E.ow0, sep := E.sep, me := E.me }
theorem EnW.rebase {K : PySem.W.Frag} {G : Gs} {F H : Hp} {σ : L2.St} {ρ : En} {om : Om} (E : EnW K G F σ H ρ om) : EnW K ⟨G.H0, F, G.v0⟩ F σ H ρ om :=
  { E.toEnR with st := ⟨.refl _, E.st.hh, E.st.fh, fun _ _ h => h, fun h => h⟩, ow0 := E.ow0, sep := E.sep, me := E.me }
theorem for_run {K : PySem.W.Frag} {G : Gs} {F1 H1 : Hp} {J : It} {ds : List D} {σ : L2.St} {ρ : En} {om : Om} {t : TG} {bind : D → En → Option En} {body : FS} {tb : TS} {o : Out} {Ds : Ends}
    (hs : Src K F1 J ds) (E : EnW K G F1 σ H1 ρ om) (hb : ∀ Ds σ H, tS K body Ds σ H → tb Ds σ H) (ht : TgOk K t bind) (e : loopS bind body ds ρ = some o)
    (k : OutK K G Ds o) :
    ∃ W : Nat → Nat → L2.St → Hp → Prop, (∃ m, W 0 m σ H1) ∧ ∀ i m σ H, W i m σ H →
      (J.stop i H ∧ Ds.nx σ H) ∨ (J.go i H ∧ ∃ N : L2.St → Hp → Prop, (∀ σ' H', N σ' H' → ∃ m', m' < m ∧ W (i + 1) m' σ' H') ∧ ∀ x H', J.yld i H x H' → t x σ H' fun σ2 H2 => tb { Ds with nx := N, ct := N, bk := Ds.nx } σ2 H2) := by
  let W : Nat → Nat → L2.St → Hp → Prop := fun i m σ H => m = ds.length - i ∧ i ≤ ds.length ∧ ∃ F ρ om, EnW K ⟨G.H0, F1, G.v0⟩ F σ H ρ om ∧ loopS bind body (ds.drop i) ρ = some o
  refine ⟨W, ⟨ds.length, rfl, Nat.zero_le _, F1, ρ, om, E.rebase, by simpa using e⟩, ?_⟩
  rintro i m σ H ⟨rfl, hi, F, ρ, om, E2, e2⟩
  obtain ⟨go, stop⟩ := hs F H i E2.st.ff E2.sub
  by_cases hlt : i < ds.length
  · refine .inr ?_
    have hd : ds[i]? = some ds[i] := List.getElem?_eq_getElem hlt
    obtain ⟨g1, g2⟩ := go _ hd
    refine ⟨g1, W (i + 1) (ds.length - (i + 1)), fun σ' H' w => ⟨_, by omega, w⟩, fun x H' y => ?_⟩
    obtain ⟨rfl, rx⟩ := g2 x H' y
    have ed : ds.drop i = ds[i] :: ds.drop (i + 1) := List.drop_eq_getElem_cons hlt
    rw [ed] at e2
    obtain ⟨ρ1, e3, e4⟩ := Option.bind_eq_some_iff.mp e2
    obtain ⟨ob, e5, e6⟩ := Option.bind_eq_some_iff.mp e4
    refine ht _ F σ H' ρ om x _ ρ1 _ E2 rx e3 fun σ3 om3 E3 => hb _ _ _ ⟨_, F, ρ1, om3, ob, E3, e5, ?_⟩
    cases ob with
    | nx ρ2 => exact fun F' σ' H' om' E' => ⟨rfl, hlt, F', ρ2, om', E', e6⟩
    | rt d ρ2 =>
      cases e6
      exact fun v F' σ' H' om' E' r => k v F' σ' H' om' (E'.base E.st) r
    | bk ρ2 =>
      cases e6
      exact fun F' σ' H' om' E' => k F' σ' H' om' (E'.base E.st)
  · have ej : i = ds.length := by omega
    subst ej
    rw [List.drop_length] at e2
    cases e2
    exact .inl ⟨stop (Nat.le_refl _), k F σ H om (E2.base E.st)⟩
theorem ds_for {tg iter : Expr} {body : List Stmt} {fi : FI} {t : TG} {bind : D → En → Option En} (hp : PassesOwn (model X.prog X.w) X.A X.env X.xe) (hc : X.calm = true) (hi : DI X true tg iter fi) (hg : PG X tg t) (ht : TgOk X.K t bind) (hb : DSs X body g)
    (hs : ∀ x, foldedSetIterable iter X.env x = pure x := by intro _; rfl) : DS X (.For tg iter body [] pos) (gFor fi bind g) := PS.weak (ps_for hp hc hi hg hb hs) fun Ds σ H ⟨G, F, ρ, om, o, E, e, k⟩ => by
  obtain ⟨ds, e1, e2⟩ := Option.bind_eq_some_iff.mp e
  exact ⟨F, ρ, om, ds, E.toEnR, e1, fun J F1 H1 t1 s1 => for_run s1 (E.step t1) (fun _ _ _ q => q) ht e2 k⟩
end
end K32
end
section
set_option Elab.async false
set_option linter.all false
set_option maxRecDepth 100000
set_option maxHeartbeats 4000000
namespace K32
open PySem PySem.Spec PyProof.Rows L2

/-! ### one's own lists and dicts -/
def notOb : Sl → Prop
  | .ob _ => False
  | _ => True
theorem me_set {G : Gs} {σ : L2.St} {ρ : En} {i : Nat} {s : Sl} {v : V} (ns : notOb s) (me : ∀ st, ρ[0]? = some (some (.ob st)) → σ[0]? = some (some G.v0)) :
    ∀ st, (ρ.set i (some s))[0]? = some (some (.ob st)) → (σ.set i (some v))[0]? = some (some G.v0) := fun st e => by
  by_cases h : i = 0
  · subst h
    by_cases hl : 0 < ρ.length
    · rw [List.getElem?_set_self hl] at e
      cases e
      exact ns.elim
    · rw [List.getElem?_eq_none (by simpa using hl)] at e
      cases e
  · rw [List.getElem?_set_ne h] at e ⊢
    exact me st e
theorem me_put {G : Gs} {σ : L2.St} {ρ : En} {i : Nat} {s : Sl} (ns : notOb s) (me : ∀ st, ρ[0]? = some (some (.ob st)) → σ[0]? = some (some G.v0)) :
    ∀ st, (ρ.set i (some s))[0]? = some (some (.ob st)) → σ[0]? = some (some G.v0) := fun st e => by
  by_cases h : i = 0
  · subst h
    by_cases hl : 0 < ρ.length
    · rw [List.getElem?_set_self hl] at e
      cases e
      exact ns.elim
    · rw [List.getElem?_eq_none (by simpa using hl)] at e
      cases e
  · rw [List.getElem?_set_ne h] at e
    exact me st e
section
variable {K : PySem.W.Frag} {G : Gs} {F H : Hp} {σ : L2.St} {ρ : En} {om : Om}
theorem SlR.upd {l : Addr} {o : HO} {v : V} {own : List Addr} (hl : l ∉ own) : ∀ {s : Sl}, SlR K F H v own s → SlR K F (upd H l o) v own s
  | .fz d, h => h
  | .ol ds, ⟨a, xs, e, e2, h, r⟩ => by
    have ne : a ≠ l := fun q => hl (by rw [e2, q]; exact List.mem_singleton.mpr rfl)
    exact ⟨a, xs, e, e2, h.elim (fun h => .inl (by rw [upd_ne ne]; exact h)) fun ⟨ob, h⟩ => .inr ⟨ob, by rw [upd_ne ne]; exact h⟩, r⟩
  | .od ds, ⟨a, xs, e, e2, h, r⟩ => by
    have ne : a ≠ l := fun q => hl (by rw [e2, q]; exact List.mem_singleton.mpr rfl)
    exact ⟨a, xs, e, e2, h.elim (fun h => .inl (by rw [upd_ne ne]; exact h)) fun ⟨ob, h⟩ => .inr ⟨ob, by rw [upd_ne ne]; exact h⟩, r⟩
  | .ob st, ⟨p, dx, vp, vs, l1, l2, k1, k2, e, e2, n1, n2, n3, hp, r1, r2, h1, r3, h2, r4⟩ => by
    have np : p ≠ l := fun q => hl (by rw [e2, q]; simp)
    have m1 : l1 ≠ l := fun q => hl (by rw [e2, q]; simp)
    have m2 : l2 ≠ l := fun q => hl (by rw [e2, q]; simp)
    exact ⟨p, dx, vp, vs, l1, l2, k1, k2, e, e2, n1, n2, n3, by rw [upd_ne np]; exact hp, r1, r2,
      h1.elim (fun h => .inl (by rw [upd_ne m1]; exact h)) fun ⟨ob, h⟩ => .inr ⟨ob, by rw [upd_ne m1]; exact h⟩, r3,
      h2.elim (fun h => .inl (by rw [upd_ne m2]; exact h)) fun ⟨ob, h⟩ => .inr ⟨ob, by rw [upd_ne m2]; exact h⟩, r4⟩
/-- a new thing of one's own goes to the name i -/
theorem EnW.own (E : EnW K G F σ H ρ om) {i : Nat} {p : Addr} {o : HO} {s : Sl} (hp : H p = none) (ho : ∀ a u, o ≠ .frz a u) (ns : notOb s) (hs : SlR K F (upd H p o) (.ref p) [p] s) :
    EnW K G F (σ.set i (some (.ref p))) (upd H p o) (ρ.set i (some s)) (fun j => if j = i then [p] else om j) where
  sub := E.sub.trans (same_new hp)
  len := by simp [E.len]
  sl := fun j s' e => by
    by_cases h : j = i
    · subst h
      have hj : j < ρ.length := by
        have := len_of_get e
        simpa using this
      rw [List.getElem?_set_self hj] at e
      cases e
      refine ⟨.ref p, ?_, ?_⟩
      · rw [List.getElem?_set_self (by rw [E.len]; exact hj)]
      · rw [if_pos rfl]
        exact hs
    · rw [List.getElem?_set_ne (fun q => h q.symm)] at e
      obtain ⟨v', e1, q⟩ := E.sl j s' e
      refine ⟨v', ?_, by rw [if_neg h]; exact q.step (.refl _) (same_new hp)⟩
      rw [List.getElem?_set_ne (fun q => h q.symm)]
      exact e1
  fr := fun j a h => by
    split at h
    · rw [List.mem_singleton.mp h]
      exact E.sub.free hp
    · exact E.fr j a h
  th := fun j a h => by
    split at h
    · rw [List.mem_singleton.mp h, upd_same]
      exact fun z => nomatch z
    · exact fun q => E.th j a h ((same_new hp).free q)
  nf := fun hb => ⟨(E.nf hb).1, fun j a h o' u q => by
    split at h
    · rw [List.mem_singleton.mp h, upd_same] at q
      exact ho _ _ (Option.some.inj q)
    · have ne : a ≠ p := fun z => E.th j a h (by rw [z]; exact hp)
      rw [upd_ne ne] at q
      exact (E.nf hb).2 j a h o' u q⟩
  st := E.st.trans (.own E.sub hp)
  ow0 := fun j a h => by
    split at h
    · rw [List.mem_singleton.mp h]
      exact E.st.hh.free hp
    · exact E.ow0 j a h
  sep := fun i' j a h1 h2 => by
    split at h1
    · rename_i e1
      split at h2
      · rename_i e2
        rw [e1, e2]
      · rw [List.mem_singleton.mp h1] at h2
        exact absurd hp (E.th j p h2)
    · split at h2
      · rw [List.mem_singleton.mp h2] at h1
        exact absurd hp (E.th i' p h1)
      · exact E.sep i' j a h1 h2
  me := me_set ns E.me
/-- one's own thing at l is changed -/
theorem EnW.mut (E : EnW K G F σ H ρ om) {i : Nat} {l : Addr} {o : HO} {s : Sl} {v : V} (hi : l ∈ om i) (hv : i < ρ.length → σ[i]? = some (some v)) (ho : ∀ a u, o ≠ .frz a u) (ns : ∀ st, (ρ.set i (some s))[0]? = some (some (.ob st)) → σ[0]? = some (some G.v0)) (hs : SlR K F (upd H l o) v (om i) s) :
    EnW K G F σ (upd H l o) (ρ.set i (some s)) om where
  sub := fun a u e => by
    rw [upd_ne (fun q => by rw [q, E.fr i l hi] at e; cases e)]
    exact E.sub a u e
  len := by simp [E.len]
  sl := fun j s' e => by
    by_cases h : j = i
    · subst h
      have hj : j < ρ.length := by
        have := len_of_get e
        simpa using this
      rw [List.getElem?_set_self hj] at e
      cases e
      exact ⟨v, hv hj, hs⟩
    · rw [List.getElem?_set_ne (fun q => h q.symm)] at e
      obtain ⟨v', e1, q⟩ := E.sl j s' e
      exact ⟨v', e1, q.upd fun m => h (E.sep j i l m hi)⟩
  fr := E.fr
  th := fun j a h q => by
    by_cases z : a = l
    · rw [z, upd_same] at q
      cases q
    · rw [upd_ne z] at q
      exact E.th j a h q
  nf := fun hb => ⟨(E.nf hb).1, fun j a h o' u q => by
    by_cases z : a = l
    · rw [z, upd_same] at q
      exact ho _ _ (Option.some.inj q)
    · rw [upd_ne z] at q
      exact (E.nf hb).2 j a h o' u q⟩
  st := ⟨E.st.ff, fun a u e => by
    rw [upd_ne (fun q => by rw [q, E.ow0 i l hi] at e; cases e)]
    exact E.st.hh a u e, fun a u e => by
    rw [upd_ne (fun q => by rw [q, E.fr i l hi] at e; cases e)]
    exact E.sub a u e, E.st.nw, E.st.nf⟩
  ow0 := E.ow0
  sep := E.sep
  me := ns
/-- what stands at one's own list's place -/
theorem EnW.atL (E : EnW K G F σ H ρ om) {i : Nat} {ds : List D} (h : ρ[i]? = some (some (.ol ds))) : ∃ l xs, σ[i]? = some (some (.ref l)) ∧ om i = [l] ∧ H l = some (.lst xs) ∧ RepL K F xs ds := by
  obtain ⟨v, e1, l, xs, rfl, e2, hl, r⟩ := E.sl i _ h
  refine ⟨l, xs, e1, e2, ?_, r⟩
  rcases hl with hl | ⟨o, hl⟩
  · exact hl
  · exact absurd hl ((E.nf rfl).2 i l (by rw [e2]; exact List.mem_singleton.mpr rfl) o _)
theorem EnW.atD (E : EnW K G F σ H ρ om) {i : Nat} {es : List (Int × D)} (h : ρ[i]? = some (some (.od es))) : ∃ l kvs, σ[i]? = some (some (.ref l)) ∧ om i = [l] ∧ H l = some (.dK kvs) ∧ RepD K F kvs es := by
  obtain ⟨v, e1, l, xs, rfl, e2, hl, r⟩ := E.sl i _ h
  refine ⟨l, xs, e1, e2, ?_, r⟩
  rcases hl with hl | ⟨o, hl⟩
  · exact hl
  · exact absurd hl ((E.nf rfl).2 i l (by rw [e2]; exact List.mem_singleton.mpr rfl) o _)
end
section
variable {X : Cx} {b : Bool} {a c e : Expr} {es : List Expr} {fa fc f : FD} {l : List FD} {pos p p2 : Pos} {k k' : Nat} {x y z : Str} {s : Stmt} {ss : List Stmt} {g g' : FS} {m : FM}
/-- x = [e, ..] -/
def gOwnL (i : Nat) (l : List FD) : FS := fun ρ => (fAll l ρ).map fun ds => .nx (ρ.set i (some (.ol ds)))
theorem ds_ownL {i : Nat} {pos' : Pos} (hN : X.N.Nodup) (hi : X.N[i]? = some x) (hx : Loc X.env.scope x) (h : DA X true es (fAll l)) (hl : l.length ≤ 100000 := by decide) (hs : swapsWith (.List es p) (some (.Name x pos')) pos.line X.env = pure false := by rfl) (hf : X.fn x = true ∨ X.env.scope.names.lookup x = some .local := by first | exact .inl rfl | exact .inr rfl | assumption) :
    DS X (.Assign [.Name x pos'] (.List es p) pos) (gOwnL i l) := PS.weak (ps_set hN hi hx (pe_lst h) hs hf) fun Ds σ H ⟨G, F, ρ, om, o, E, e, k⟩ => by
  obtain ⟨ds, e1, rfl⟩ := Option.map_eq_some_iff.mp e
  refine ⟨F, ρ, om, ds, E.toEnR, e1, fun vs F1 H1 t1 r1 => ⟨by rw [r1.length, fAll_length e1]; exact line_of hl, fun q hq => ?_⟩⟩
  exact k F1 _ _ _ ((E.step t1).own hq (fun _ _ z => nomatch z) True.intro ⟨q, vs, rfl, rfl, .inl upd_same, r1⟩)
/-- x = {} -/
def gOwnD (i : Nat) : FS := fun ρ => some (.nx (ρ.set i (some (.od []))))
theorem ds_ownD {i : Nat} {pos' : Pos} (hN : X.N.Nodup) (hi : X.N[i]? = some x) (hx : Loc X.env.scope x) (hs : swapsWith (.Dict [] [] p) (some (.Name x pos')) pos.line X.env = pure false := by rfl) (hf : X.fn x = true ∨ X.env.scope.names.lookup x = some .local := by first | exact .inl rfl | exact .inr rfl | assumption) :
    DS X (.Assign [.Name x pos'] (.Dict [] [] p) pos) (gOwnD i) := PS.weak (ps_set hN hi hx pe_dnewK hs hf) fun Ds σ H ⟨G, F, ρ, om, o, E, e, k⟩ => by
  cases e
  exact fun q hq => k F _ _ _ (E.own hq (fun _ _ z => nomatch z) True.intro ⟨q, [], rfl, rfl, .inl upd_same, .nil⟩)
/-- x = dict(e) -/
def gOwnC (i : Nat) (f : FD) : FS := fun ρ => (f ρ).bind fun d => match d with
  | .dic es => some (.nx (ρ.set i (some (.od es))))
  | _ => none
theorem ds_ownC {i : Nat} {pos' p' : Pos} (hN : X.N.Nodup) (hi : X.N[i]? = some x) (hx : Loc X.env.scope x) (hg : Gl X "dict") (hm : X.mg "dict" = none) (hv : bootBuiltins "dict" = some (.type "dict")) (h : DC X true e f) (hs1 : starEach [e] X.env = (false, eval e X.env) :: starEach [] X.env := by rfl)
    (hs : swapsWith (.Call (.Name "dict" p') [e] [] p) (some (.Name x pos')) pos.line X.env = pure false := by rfl) (hf : X.fn x = true ∨ X.env.scope.names.lookup x = some .local := by first | exact .inl rfl | exact .inr rfl | assumption) :
    DS X (.Assign [.Name x pos'] (.Call (.Name "dict" p') [e] [] p) pos) (gOwnC i f) := PS.weak (ps_set hN hi hx (pe_callTy call_dictD hg hm hv (pa_cons h pa_nil hs1) (by decide) (by decide) hs1 rfl) hs hf) fun Ds σ H ⟨G, F, ρ, om, o, E, e, k⟩ => by
  obtain ⟨d, e1, e2⟩ := Option.bind_eq_some_iff.mp e
  cases d with
  | dic es =>
    cases e2
    refine ⟨F, ρ, om, _, E.toEnR, e1, fun v F1 H1 t1 r1 => ?_⟩
    obtain ⟨a, kvs, rfl, ha, ra⟩ := r1
    exact ⟨a, kvs, rfl, ha, fun q hq => k F1 _ _ _ ((E.step t1).own hq (fun _ _ z => nomatch z) True.intro ⟨q, kvs, rfl, rfl, .inl upd_same, ra⟩)⟩
  | _ => cases e2
/-- x.append(e) -/
def gApp (i : Nat) (f : FD) : FS := fun ρ => match ρ[i]? with
  | some (some (.ol ds)) => (f ρ).bind fun d => if ds.length < 100000 then some (.nx (ρ.set i (some (.ol (ds ++ [d]))))) else none
  | _ => none
theorem ds_app {i : Nat} {px apos : Pos} (ho : PE X (.Name x px) (tVar i)) (h : DE X true e f) (hbase : attributeBase (.Name x px) "append" X.env (eval (.Name x px) X.env) = eval (.Name x px) X.env := by rfl)
    (hfew : ((backTo p (starEach [e] X.env)).all (fun x => !x.1) && (backToKw p (keywordEach [] X.env)).all (fun x => x.1.isSome)
      && decide (([e] : List Expr).length + ([] : List Keyword).length + (if ([] : List Keyword).isEmpty then 0 else 1) < 30)) = true := by rfl)
    (hline : (apos.endLine == p.line) = true := by rfl) (hs1 : starEach [e] X.env = (false, eval e X.env) :: starEach [] X.env := by rfl) (hs : swapsWith (.Call (.Attribute (.Name x px) "append" apos) [e] [] p) none pos.line X.env = pure false := by rfl) :
    DS X (.Expr (.Call (.Attribute (.Name x px) "append" apos) [e] [] p) pos) (gApp i f) :=
  PS.weak (ps_expr (pe_bm PySem.F.plainAttrs_list PySem.F.slot_list_append PySem.F.type_list_append mt_append ho (pa_cons h pa_nil hs1) hbase hfew hline hs1 rfl) hs) fun Ds σ H ⟨G, F, ρ, om, o, E, e, k⟩ => by
    unfold gApp at e
    split at e
    · rename_i ds hi
      obtain ⟨d, e1, e2⟩ := Option.bind_eq_some_iff.mp e
      split at e2
      · rename_i hlen
        cases e2
        obtain ⟨lo, xs, ev, eo, hl, r⟩ := E.atL hi
        refine ⟨.ref lo, ev, .inl ⟨rfl, xs, SqL.of hl⟩, F, ρ, om, d, E.toEnR, e1, fun v F1 H1 t1 r1 => ?_⟩
        have E1 := E.step t1
        refine ⟨lo, xs, v, rfl, rfl, t1.hh _ _ hl, by rw [r.length]; exact line_lt hlen, ?_⟩
        exact k F1 σ _ om (E1.mut (v := .ref lo) (by rw [eo]; exact List.mem_singleton.mpr rfl) (fun _ => ev) (fun _ _ z => nomatch z) (me_put True.intro E1.me) ⟨lo, _, rfl, eo, .inl upd_same, (r.same t1.ff).snoc r1⟩)
      · cases e2
    · cases e
/-- x[k] = e, x one's own dict -/
def gPut (i : Nat) (fk fv : FD) : FS := fun ρ => (fv ρ).bind fun d => (fk ρ).bind fun kd => match kd, ρ[i]? with
  | .int n, some (some (.od es)) => if es.length < 100000 then some (.nx (ρ.set i (some (.od (dPut es n d))))) else none
  | _, _ => none
theorem ds_put {i : Nat} {px pos' : Pos} {fk fv : FD} {ke : Expr} (hr : Room k X.A) (ho : PE X (.Name x px) (tVar i)) (hk : DE X true ke fk) (hv : DE X true e fv) (hs : swapsWith e (some (.Subscript (.Name x px) ke pos')) pos.line X.env = pure false := by rfl) :
    DS X (.Assign [.Subscript (.Name x px) ke pos'] e pos) (gPut i fk fv) := PS.weak (ps_dput (hu_of hr) ho hk hv hs) fun Ds σ H ⟨G, F, ρ, om, o, E, e, k⟩ => by
  obtain ⟨d, e1, e2⟩ := Option.bind_eq_some_iff.mp e
  obtain ⟨kd, e3, e4⟩ := Option.bind_eq_some_iff.mp e2
  split at e4
  · rename_i n es hi
    split at e4
    · rename_i hlen
      cases e4
      obtain ⟨lo, kvs, ev, eo, hl, r⟩ := E.atD hi
      refine ⟨F, ρ, om, d, E.toEnR, e1, fun v F1 H1 t1 r1 => ⟨.ref lo, ev, F1, ρ, om, _, E.toEnR.step t1, e3, fun vk F2 H2 t2 r2 => ?_⟩⟩
      have evk := r2.int_inv
      subst evk
      have E2 := (E.step t1).step t2
      refine ⟨lo, _, rfl, .inl ⟨kvs, .inl n, (t2.hh _ _ (t1.hh _ _ hl)), rfl, by rw [r.length]; exact line_lt hlen, rfl⟩, ?_⟩
      exact k F2 σ _ om (E2.mut (v := .ref lo) (by rw [eo]; exact List.mem_singleton.mpr rfl) (fun _ => ev) (fun _ _ z => nomatch z) (me_put True.intro E2.me) ⟨lo, _, rfl, eo, .inl upd_same, (r.same (t1.ff.trans t2.ff)).put (r1.same t2.ff)⟩)
    · cases e4
  · cases e4
/-- x.pop(k), x one's own dict -/
def gPop (i : Nat) (fk : FD) : FS := fun ρ => (fk ρ).bind fun kd => match kd, ρ[i]? with
  | .int n, some (some (.od es)) => if (dLook es n).isSome then some (.nx (ρ.set i (some (.od (dDrop es n))))) else none
  | _, _ => none
theorem ds_pop {i : Nat} {px apos : Pos} {fk : FD} (ho : PE X (.Name x px) (tVar i)) (hk : DE X true e fk) (m : M1 X (.Name x px) "pop" apos e p) (hs : swapsWith (.Call (.Attribute (.Name x px) "pop" apos) [e] [] p) none pos.line X.env = pure false := by rfl) :
    DS X (.Expr (.Call (.Attribute (.Name x px) "pop" apos) [e] [] p) pos) (gPop i fk) := PS.weak (ps_expr (pe_dpop1 ho hk m) hs) fun Ds σ H ⟨G, F, ρ, om, o, E, e, k⟩ => by
  obtain ⟨kd, e1, e2⟩ := Option.bind_eq_some_iff.mp e
  split at e2
  · rename_i n es hi
    split at e2
    · rename_i hs
      cases e2
      obtain ⟨lo, kvs, ev, eo, hl, r⟩ := E.atD hi
      refine ⟨.ref lo, ev, lo, rfl, .inl ⟨kvs, .inl hl⟩, F, ρ, om, _, E.toEnR, e1, fun vk F1 H1 t1 r1 => ?_⟩
      have evk := r1.int_inv
      subst evk
      have E1 := E.step t1
      obtain ⟨w, hw⟩ := Option.isSome_iff_exists.mp hs
      obtain ⟨v, hv, _⟩ := (r.look n).1 w hw
      refine ⟨kvs, .inl n, v, t1.hh _ _ hl, rfl, hv, ?_⟩
      exact k F1 σ _ om (E1.mut (v := .ref lo) (by rw [eo]; exact List.mem_singleton.mpr rfl) (fun _ => ev) (fun _ _ z => nomatch z) (me_put True.intro E1.me) ⟨lo, _, rfl, eo, .inl upd_same, (r.same t1.ff).drop n⟩)
    · cases e2
  · cases e2
end

/-! ### a def that only reckons keeps its promise -/
def env0 (n : Nat) (ds : List D) : En := ds.map (fun d => some (.fz d)) ++ List.replicate (n - ds.length) none
def outD : Out → Option D
  | .nx _ => some .non
  | .rt d _ => some d
  | .bk _ => none
/-- the function that a body of n names reckons -/
def fnOf (n ps : Nat) (g : FS) : List D → Option D := fun ds => if ds.length = ps then (g (env0 n ds)).bind outD else none
theorem repl_none {α : Type} {n i : Nat} {s : α} : (List.replicate n (none : Option α))[i]? ≠ some (some s) := fun h => by
  rw [List.getElem?_replicate] at h
  split at h <;> cases h
theorem env0_R {K : PySem.W.Frag} {F H : Hp} {N : List Str} {vs : List V} {ds : List D} (s : Same F H) (nf : NoFrz F) (r : RepL K F vs ds) : EnR K true F (L2.start N vs) H (env0 N.length ds) (fun _ => []) where
  sub := s
  len := by simp [L2.start, env0, r.length]
  sl := fun i sl e => by
    have hl := r.length
    unfold env0 at e
    by_cases hi : i < ds.length
    · rw [List.getElem?_append_left (by simpa using hi), List.getElem?_map] at e
      obtain ⟨d, e1, e2⟩ := Option.map_eq_some_iff.mp e
      cases e2
      obtain ⟨v, e3, rv⟩ := r.get e1
      refine ⟨v, ?_, rfl, rv⟩
      unfold L2.start
      rw [List.getElem?_append_left (by simpa [hl] using hi), List.getElem?_map, e3]
      rfl
    · rw [List.getElem?_append_right (by simpa using hi)] at e
      exact absurd e repl_none
  fr := fun i a h => by cases h
  th := fun i a h => by cases h
  nf := fun _ => ⟨nf, fun i a h => by cases h⟩
theorem env0_me {n : Nat} {ds : List D} {st : Dr} : (env0 n ds)[0]? ≠ some (some (.ob st)) := fun e => by
  unfold env0 at e
  cases ds with
  | nil => exact absurd e (by simpa using repl_none)
  | cons d ds => cases e
theorem env0_W {K : PySem.W.Frag} {F H : Hp} {N : List Str} {vs : List V} {ds : List D} (s : Same F H) (nf : NoFrz F) (r : RepL K F vs ds) : EnW K ⟨H, F, .non⟩ F (L2.start N vs) H (env0 N.length ds) (fun _ => []) :=
  { env0_R s nf r with st := .refl s, ow0 := (fun i a h => by cases h), sep := (fun i j a h => by cases h), me := (fun st e => absurd e env0_me) }
section
variable {P : Program} {w : World} {K : PySem.W.Frag} {mg : Str → Option Value} {base : Heap}
theorem fnok_of {x qual : Str} {st : Stmt} {f : Addr} {fd : FuncData} {N ps : List Str} {k : Nat} {g : FS} (F : FunD K x qual (defArgs st) (defBody st) (defScope st) [] [] f fd) (S : FnScope N ps (defScope st))
    (body : ∀ (cdv : Value) (A : Around) (outer : List Env) (s : Shared) (H : Hp) (E : XK), Room k (A.deeper (envOfC qual (defScope st) s.heap.objs.size f cdv)) → DSs (cxOf CX0 P w K mg base N qual (defScope st) f cdv A outer s H E).nox (defBody st) g) :
    FnOk P w K mg base CX0 (k + 1) f fd ps (spP K (fnOf N.length ps.length g)) := by
  refine F.ok S (fun vs H Q E h => ?_) (fun cdv A outer s H vs Q E hr h => ?_)
  · obtain ⟨F, ds, d, _, _, r, e, _⟩ := h
    unfold fnOf at e
    split at e
    · rename_i hl
      rw [r.length]
      exact hl
    · cases e
  · obtain ⟨F, ds, d, hs, nf, r, e, q⟩ := h
    unfold fnOf at e
    split at e
    · obtain ⟨o, e1, e2⟩ := Option.bind_eq_some_iff.mp e
      refine ⟨tS K g, PSs.nox (body cdv A outer s H E hr), _, F, _, _, o, env0_W hs nf r, e1, ?_⟩
      cases o with
      | nx ρ' =>
        cases e2
        exact fun F' σ' H' om' E' => q .non F' H' E'.st .non
      | rt d' ρ' =>
        cases e2
        exact fun v F' σ' H' om' E' r' => q v F' H' E'.st r'
      | bk ρ' => cases e2
    · cases e
theorem cal_of {x qual : Str} {st : Stmt} {f : Addr} {fd : FuncData} {N ps : List Str} {k : Nat} {g : FS} (F : FunD K x qual (defArgs st) (defBody st) (defScope st) [] [] f fd) (hm : mg x = some (.ref f)) (S : FnScope N ps (defScope st)) (hb : Binds K fd ps [])
    (body : ∀ (cdv : Value) (A : Around) (outer : List Env) (s : Shared) (H : Hp) (E : XK), Room k (A.deeper (envOfC qual (defScope st) s.heap.objs.size f cdv)) → DSs (cxOf CX0 P w K mg base N qual (defScope st) f cdv A outer s H E).nox (defBody st) g) :
    Cal P w K mg base x ps (k + 1) (spP K (fnOf N.length ps.length g)) := ⟨f, fd, hm, F.kp, hb, fnok_of F S body⟩
end
end K32
end
section
set_option Elab.async false
set_option linter.all false
set_option maxRecDepth 100000
set_option maxHeartbeats 4000000
namespace K32
open PySem PySem.Spec PyProof.Rows L2
section
variable {X : Cx} {b : Bool} {a c e w : Expr} {es : List Expr} {fa fc f fw : FD} {l : List FD} {pos p p2 : Pos} {k k' : Nat} {x y z : Str} {s : Stmt} {ss : List Stmt} {g g' : FS} {m : FM} {r r' : R2} {dop dop' : D → D → Option D}

/-! ### a op b op' c -/
def fCh (dop dop' : D → D → Option D) (fa fc fw : FD) : FD := fun ρ => (fa ρ).bind fun x => (fc ρ).bind fun y => ((dop x y).bind dB).bind fun k => if k then (fw ρ).bind fun z => dop' y z else some (.bl false)
theorem ch_w {K : PySem.W.Frag} (h : OpS K r dop) (h' : OpS K r' dop') {σ : L2.St} {H : Hp} {Q : VK} (q : tD K b (fCh dop dop' fa fc fw) σ H Q) : tChain r r' (tD K b fa) (tD K b fc) (tD K b fw) σ H Q := by
  obtain ⟨F, ρ, om, z, E, e, k⟩ := q
  obtain ⟨x, ex, e⟩ := Option.bind_eq_some_iff.mp e
  obtain ⟨y, ey, e⟩ := Option.bind_eq_some_iff.mp e
  obtain ⟨kk, ek, e⟩ := Option.bind_eq_some_iff.mp e
  obtain ⟨d, e1, e2⟩ := Option.bind_eq_some_iff.mp ek
  have ed := dB_some e2
  subst ed
  refine ⟨F, ρ, om, x, E, ex, fun vx F1 H1 t1 r1 => ⟨F1, ρ, om, y, E.step t1, ey, fun vy F2 H2 t2 r2 => ?_⟩⟩
  refine h F2 H2 vx vy x y _ _ t2.fh (r1.same t2.ff) r2 e1 fun v F3 H3 t3 r3 => ?_
  cases r3
  refine ⟨kk, rfl, ?_⟩
  cases kk with
  | true =>
    simp only [if_true] at e
    obtain ⟨z', ez, e⟩ := Option.bind_eq_some_iff.mp e
    exact iteT ⟨F3, ρ, om, z', ((E.step t1).step t2).step t3, ez, fun vz F4 H4 t4 r4 => h' F4 H4 vy vz y z' z Q t4.fh (r2.same (t3.ff.trans t4.ff)) r4 e fun v F5 H5 t5 r5 => k v F5 H5 ((((t1.trans t2).trans t3).trans t4).trans t5) r5⟩
  | false =>
    simp only [Bool.false_eq_true, if_false, Option.some.injEq] at e
    subst e
    exact iteF (k _ F3 H3 ((t1.trans t2).trans t3) (.bl false))
theorem de_ch {op op' : CmpOp} (ho : OpR X (compareOp op) r) (ho' : OpR X (compareOp op') r') (h : OpS X.K r dop) (h' : OpS X.K r' dop') (ha : DE X b a fa) (hc : DE X b c fc) (hw : DE X b w fw) (hm : lastMarks [op, op'] [c, w] = false := by with_unfolding_all rfl) :
    DE X b (.Compare a [op, op'] [c, w] pos) (fCh dop dop' fa fc fw) := PE.weak (pe_chain ho ho' ha hc hw hm) fun _ _ _ q => ch_w h h' q
theorem dt_ch {op op' : CmpOp} (ho : OpR X (compareOp op) r) (ho' : OpR X (compareOp op') r') (h : OpS X.K r dop) (h' : OpS X.K r' dop') (ha : DE X b a fa) (hc : DE X b c fc) (hw : DE X b w fw) (hm : lastMarks [op, op'] [c, w] = false := by with_unfolding_all rfl) :
    DT X b (.Compare a [op, op'] [c, w] pos) (fT (fCh dop dop' fa fc fw)) := PT.weak (pt_chain ho ho' ha hc hw hm) fun _ _ _ q => test_w (fun _ _ _ q => ch_w h h' q) q
def fNeg (f : FD) : FD := f1 (fun d => (dI d).map fun i => .int (-i)) f
theorem de_ng (ha : DE X b a fa) : DE X b (.UnaryOp .USub a pos) (fNeg fa) := de_neg ha

/-! ### {k: v} -/
theorem de_dic1 {ke ve : Expr} (hk : DE X b ke fa) (hv : DE X b ve fc) : DE X b (.Dict [some ke] [ve] pos) (fDic1 fa fc) :=
  PE.weak (pe_disp (pps_cons hk hv pps_nil) rfl rfl (fun z => by cases z) (Nat.le_of_ble_eq_true rfl)) fun σ H Q ⟨F, ρ, om, z, E, e, k⟩ => by
    obtain ⟨x, ex, e⟩ := Option.bind_eq_some_iff.mp e
    obtain ⟨y, ey, e⟩ := Option.bind_eq_some_iff.mp e
    cases x with
    | int i =>
      cases e
      intro q hq
      have E0 := E.step (.own (o := .dK []) E.sub hq)
      have f0 : F q = none := E.sub.free hq
      refine ⟨F, ρ, om, _, E0, ex, fun vx F1 H1 t1 r1 => ⟨F1, ρ, om, y, E0.step t1, ey, fun vy F2 H2 t2 r2 => ?_⟩⟩
      have evx := r1.int_inv
      subst evx
      have h2 : H2 q = some (.dK []) := t2.hh _ _ (t1.hh _ _ upd_same)
      have f2 : F2 q = none := t2.nw q (by rw [t1.hh _ _ upd_same]; exact fun z => nomatch z) (t1.nw q (by rw [upd_same]; exact fun z => nomatch z) f0)
      refine ⟨h2, [(.inl i, vy)], rfl, Nat.le_of_ble_eq_true rfl, ?_⟩
      have t12 := t1.trans t2
      refine k _ (upd F2 q (.dK [(.inl i, vy)])) _ ⟨fun b u e => ?_, fun b u e => ?_, fun b u e => ?_, fun b h1 h2 => ?_, fun n b o kvs e => ?_⟩ (.dic (.inl upd_same) (.cons (r2.same (same_new f2)) .nil))
      · rw [upd_ne (fun z => by rw [z, f0] at e; cases e)]
        exact t12.ff b u e
      · rw [upd_ne (fun z => by rw [z, hq] at e; cases e)]
        exact t12.hh b u (by rw [upd_ne (fun z => by rw [z, hq] at e; cases e)]; exact e)
      · by_cases z : b = q
        · subst z
          rw [upd_same] at e
          cases e
          exact upd_same
        · rw [upd_ne z] at e ⊢
          exact t2.fh b u e
      · have ne : b ≠ q := fun z => h1 (by rw [z]; exact hq)
        rw [upd_ne ne]
        exact t12.nw b (by rw [upd_ne ne]; exact h1) h2
      · by_cases z : b = q
        · subst z
          rw [upd_same] at e
          cases e
        · rw [upd_ne z] at e
          exact t12.nf n b o kvs e
    | _ => cases e
/-! ### one dict that is walked, its keys kept or not -/
def lockE (i0 : Option Nat) (ρ : En) : En := ρ.mapIdx fun j s => match s with
  | some (.fz d) => some (.fz d)
  | some (.od es) => if i0 = some j then some (.fz (.dic es)) else none
  | _ => none
def keysD (es : List (Int × D)) : List D := es.map fun e => .int e.1
/-- [e for x in d if ..], d a dict, the items whole numbers -/
def fLcK (fd : En → Option (List (Int × D))) (i0 : Option Nat) (ft : En → Option Bool) (fe : FD) (i : Nat) : FD := fun ρ => (fd ρ).bind fun es => if es.length ≤ 100000 then (compD ft fe i (lockE i0 ρ) (keysD es)).bind fun ys => (intsD ys).map fun ns => .lst (ns.map D.int) else none
theorem src_k {K : PySem.W.Frag} {F : Hp} {l : Addr} {od : Obj} {kvs : List (Key × V)} {es : List (Int × D)} (hl : F l = some (.frz od (.dK kvs))) {H : Hp} (r : RepD K H kvs es) : Src K F (Itk l od kvs) (keysD es) := fun F2 H2 i s1 s2 => by
  have h2 : H2 l = some (.frz od (.dK kvs)) := s2 _ _ (s1 _ _ hl)
  have hlen := r.length
  refine ⟨fun d hd => ?_, fun hi => ⟨h2, by rw [hlen]; simpa [keysD] using hi⟩⟩
  unfold keysD at hd
  rw [List.getElem?_map] at hd
  obtain ⟨q, e1, e2⟩ := Option.map_eq_some_iff.mp hd
  subst e2
  refine ⟨⟨h2, by rw [hlen]; exact len_of_get e1⟩, fun x H3 y => ⟨y.1, ?_⟩⟩
  obtain ⟨_, kk, v, e3, rfl⟩ := y
  obtain ⟨q', e4, e5, _⟩ := r.get e3
  rw [e1] at e4
  cases e4
  have e5 : kk = .inl q.1 := e5
  subst e5
  exact .int _
/-- where the walked dict is found -/
structure DkAt (K : PySem.W.Frag) (td : TE) (fd : En → Option (List (Int × D))) (i0 : Option Nat) : Prop where
  at_ : ∀ F σ H ρ om es, EnR K true F σ H ρ om → fd ρ = some es → ∃ l kvs, H l = some (.dK kvs) ∧ RepD K F kvs es ∧ (∀ j es', i0 = some j → ρ[j]? = some (some (.od es')) → σ[j]? = some (some (.ref l)) ∧ es' = es) ∧ (F l = none ∨ F l = some (.dK kvs)) ∧
    ∀ od (Q : VK), Q (.ref l) (upd H l (.frz od (.dK kvs))) → td σ (upd H l (.frz od (.dK kvs))) Q
theorem mo_lock {F : Hp} {l : Addr} {od : Obj} {kvs : List (Key × V)} (h : F l = none ∨ F l = some (.dK kvs)) : Mo F (upd F l (.frz od (.dK kvs))) := by
  have ne : ∀ a u, F a = some u → (∀ kvs', u ≠ .dK kvs') → a ≠ l := fun a u e n q => by
    rw [q] at e
    rcases h with h | h
    · rw [h] at e; cases e
    · rw [h] at e
      cases e
      exact n _ rfl
  refine ⟨fun a xs e => ?_, fun a xs e => ?_, fun a kvs' e => ?_, fun a xs e => ?_⟩
  · rw [upd_ne (ne a _ e fun _ z => nomatch z)]; exact e
  · rw [upd_ne (ne a _ e fun _ z => nomatch z)]; exact e
  · by_cases q : a = l
    · subst q
      rcases e with e | ⟨o, e⟩
      · rcases h with h | h
        · rw [h] at e; cases e
        · rw [h] at e
          cases e
          exact .inr ⟨od, upd_same⟩
      · rcases h with h | h
        · rw [h] at e; cases e
        · rw [h] at e; cases e
    · rcases e with e | ⟨o, e⟩
      · exact .inl (by rw [upd_ne q]; exact e)
      · exact .inr ⟨o, by rw [upd_ne q]; exact e⟩
  · rcases e with e | ⟨o, e⟩
    · exact .inl (by rw [upd_ne (ne a _ e fun _ z => nomatch z)]; exact e)
    · exact .inr ⟨o, by rw [upd_ne (ne a _ e fun _ z => nomatch z)]; exact e⟩
theorem lcK_w {K : PySem.W.Frag} {td : TE} {fd : En → Option (List (Int × D))} {i0 : Option Nat} {ft : En → Option Bool} {fe : FD} {i : Nat} (A : DkAt K td fd i0) {σ : L2.St} {H : Hp} {Q : VK} (q : tD K true (fLcK fd i0 ft fe i) σ H Q) :
    tLockE (tLc (iKeys td) (gName i) (tT K false ft) (tD K false fe) [i]) σ H Q := by
  obtain ⟨F, ρ, om, z, E, e, k⟩ := q
  obtain ⟨es, e1, e⟩ := Option.bind_eq_some_iff.mp e
  split at e
  · rename_i hlen
    obtain ⟨ys, e2, e3⟩ := Option.bind_eq_some_iff.mp e
    obtain ⟨ns, e4, rfl⟩ := Option.map_eq_some_iff.mp e3
    have ey := intsD_some e4
    subst ey
    obtain ⟨l, kvs, hl, rd, hi0, hF, htd⟩ := A.at_ F σ H ρ om es E e1
    refine ⟨l, .dK kvs, hl, True.intro, fun od => htd od _ ⟨l, od, rfl, .inl ⟨kvs, upd_same, fun Dn hD => ?_⟩⟩⟩
    have mo : Mo F (upd F l (.frz od (.dK kvs))) := mo_lock hF
    have EL : EnR K false (upd F l (.frz od (.dK kvs))) σ (upd H l (.frz od (.dK kvs))) (lockE i0 ρ) (fun _ => []) := by
      refine ⟨fun a o h => ?_, by simp [lockE, E.len], fun j s h => ?_, fun j a h => (by cases h), fun j a h => (by cases h), fun h => (by cases h)⟩
      · by_cases z : a = l
        · subst z
          rw [upd_same] at h ⊢
          exact h
        · rw [upd_ne z] at h ⊢
          exact E.sub a o h
      · unfold lockE at h
        rw [List.getElem?_mapIdx] at h
        obtain ⟨s0, h1, h2⟩ := Option.map_eq_some_iff.mp h
        cases s0 with
        | none => cases h2
        | some s0 => cases s0 with
          | fz d =>
            cases h2
            obtain ⟨v, ev, eo, r⟩ := E.sl j _ h1
            exact ⟨v, ev, rfl, r.mo mo⟩
          | od es' =>
            have h3 : (if i0 = some j then some (Sl.fz (.dic es')) else none) = some s := h2
            split at h3
            · rename_i hj
              cases h3
              obtain ⟨ev, ee⟩ := hi0 j es' hj h1
              subst ee
              exact ⟨_, ev, rfl, .dic (.inr ⟨od, upd_same⟩) (rd.mo mo)⟩
            · cases h3
          | ol _ => cases h2
          | ob _ => cases h2
    refine lc_run (Q := fun v H' => H' l = some (.frz od (.dK kvs)) ∧ Q v (upd H' l (.dK kvs))) (src_k upd_same rd) EL (by simpa [keysD] using hlen) e2 hD fun F' H' t r => ⟨t.hh _ _ upd_same, ?_⟩
    -- the dict is as it was; the new list alone is data
    obtain ⟨D', xs, eD, hx, rx⟩ := r.lst_inv
    cases eD
    have exs := rx.ints_inv
    subst exs
    have nD : Dn ≠ l := fun z => by rw [z, upd_same] at hD; cases hD
    have hD0 : H Dn = none := by rw [upd_ne nD] at hD; exact hD
    have hx' : H' Dn = some (.lst (ns.map V.int)) := t.fh _ _ hx
    refine k _ (upd F Dn (.lst (ns.map V.int))) _ ⟨same_new (E.sub.free hD0), fun a o h => ?_, fun a o h => ?_, fun a h1 h2 => ?_, fun n a o kvs' h => ?_⟩ (.lst upd_same RepL.ints)
    · by_cases z : a = l
      · subst z
        rw [hl] at h
        cases h
        exact upd_same
      · rw [upd_ne z]
        exact t.hh a o (by rw [upd_ne z]; exact h)
    · by_cases z : a = Dn
      · subst z
        rw [upd_same] at h
        cases h
        rw [upd_ne nD]
        exact hx'
      · rw [upd_ne z] at h
        by_cases z2 : a = l
        · subst z2
          have h3 := E.sub a o h
          rw [hl] at h3
          cases h3
          exact upd_same
        · rw [upd_ne z2]
          exact t.hh a o (by rw [upd_ne z2]; exact E.sub a o h)
    · rw [upd_ne (fun z => h1 (by rw [z]; exact hD0))]
      exact h2
    · by_cases z : a = Dn
      · subst z
        rw [upd_same] at h
        cases h
      · rw [upd_ne z] at h
        exact n a o kvs' h
  · cases e
/-- the dict that a name stands for -/
def fdVar (i : Nat) : En → Option (List (Int × D)) := fun ρ => match ρ[i]? with
  | some (some (.fz (.dic es))) => some es
  | some (some (.od es)) => some es
  | _ => none
theorem dk_var {K : PySem.W.Frag} (i : Nat) : DkAt K (tVar i) (fdVar i) (some i) := ⟨fun F σ H ρ om es E e => by
  unfold fdVar at e
  split at e
  · rename_i es' h
    cases e
    obtain ⟨v, ev, eo, r⟩ := E.sl i _ h
    obtain ⟨l, kvs, rfl, hl, rd⟩ := r.dic_inv
    have hl' : F l = some (.dK kvs) := hl.elim id fun ⟨o, q⟩ => absurd q ((E.nf rfl).1 l o kvs)
    refine ⟨l, kvs, E.sub _ _ hl', rd, fun j es' hj h2 => ?_, .inr hl', fun od Q q => ⟨_, ev, q⟩⟩
    cases hj
    rw [h] at h2
    cases h2
  · rename_i es' h
    cases e
    obtain ⟨v, ev, l, kvs, rfl, eo, hl, rd⟩ := E.sl i _ h
    have hm : l ∈ om i := by rw [eo]; exact List.mem_singleton.mpr rfl
    have hl' : H l = some (.dK kvs) := hl.elim id fun ⟨o, q⟩ => absurd q ((E.nf rfl).2 i l hm o _)
    refine ⟨l, kvs, hl', rd, fun j es' hj h2 => ?_, .inl (E.fr i l hm), fun od Q q => ⟨_, ev, q⟩⟩
    cases hj
    rw [h] at h2
    cases h2
    exact ⟨ev, rfl⟩
  · cases e⟩
theorem de_lcK {elt tg iter : Expr} {ifs : List Expr} {scope : Scope} {y : Str} {i : Nat} {td : TE} {fd : En → Option (List (Int × D))} {i0 : Option Nat} {ft : En → Option Bool} {fe : FD} (hc : X.calm = true) (hN : X.N.Nodup) (hi : PE X iter td) (A : DkAt X.K td fd i0) (ok : BlkOk X.N X.env.scope scope [(y, i)])
    (hg : ∀ (s : Shared) (H : Hp) (C : Addr) (cl : List (Str × Addr)) (fp : List Addr), PG (X.blk s H scope (compEnvC scope cl C X.env) fp) tg (gName i)) (ht : ∀ (s : Shared) (H : Hp) (C : Addr) (cl : List (Str × Addr)) (fp : List Addr), DTs (X.blk s H scope (compEnvC scope cl C X.env) fp) false ifs ft)
    (he : ∀ (s : Shared) (H : Hp) (C : Addr) (cl : List (Str × Addr)) (fp : List Addr), DE (X.blk s H scope (compEnvC scope cl C X.env) fp) false elt fe) (hs : ∀ x, foldedSetIterable iter X.env x = pure x := by intro _; rfl) :
    DE X true (.ListComp elt [⟨tg, iter, ifs, 0⟩] scope pos) (fLcK fd i0 ft fe i) := PE.weak (pe_lock (pe_lc (own := [(y, i)]) hc hN (pi_keys hi) ok hg ht he hs)) fun _ _ _ q => lcK_w A q
theorem ds_setLcK {elt tg iter : Expr} {ifs : List Expr} {scope : Scope} {y z : Str} {i j : Nat} {py spos : Pos} {td : TE} {fd : En → Option (List (Int × D))} {i0 : Option Nat} {ft : En → Option Bool} {fe : FD} (hc : X.calm = true) (hN : X.N.Nodup) (hy : X.N[j]? = some z) (hyl : X.env.scope.names.lookup z = some .local)
    (hsw : swapsWith (.ListComp elt [⟨tg, iter, ifs, 0⟩] scope pos) (some (.Name z py)) spos.line X.env = pure true) (hi : PE X iter td) (A : DkAt X.K td fd i0) (ok : BlkOk X.N X.env.scope scope [(y, i)])
    (hg : ∀ (s : Shared) (H : Hp) (C : Addr) (cl : List (Str × Addr)) (fp : List Addr), PG (X.blk s H scope (compEnvC scope cl C X.env) fp) tg (gName i)) (ht : ∀ (s : Shared) (H : Hp) (C : Addr) (cl : List (Str × Addr)) (fp : List Addr), DTs (X.blk s H scope (compEnvC scope cl C X.env) fp) false ifs ft)
    (he : ∀ (s : Shared) (H : Hp) (C : Addr) (cl : List (Str × Addr)) (fp : List Addr), DE (X.blk s H scope (compEnvC scope cl C X.env) fp) false elt fe) (hs : ∀ x, foldedSetIterable iter X.env x = pure x := by intro _; rfl) :
    DS X (.Assign [.Name z py] (.ListComp elt [⟨tg, iter, ifs, 0⟩] scope pos) spos) (gSet j (fM (fLcK fd i0 ft fe i))) := by
  have h0 := ps_setLc (own := [(y, i)]) (tt := tT X.K false ft) (te := tD X.K false fe) hc hN hy hyl hsw (pi_keys hi) ok hg ht he hs
  refine PS.weak (ps_lock h0) fun Ds σ H q => ?_
  have h1 := set_w (m := fM (fLcK fd i0 ft fe i)) (i := j) (te := tLockE (tLc (iKeys td) (gName i) (tT X.K false ft) (tD X.K false fe) [i])) (fun σ H Q ⟨G, F, ρ, om, d, ρ', E, e, k⟩ => lcK_w A (by
    obtain ⟨d', e1, e2⟩ := Option.map_eq_some_iff.mp e
    cases e2
    exact ⟨F, ρ, om, _, E.toEnR, e1, fun v F' H' t r => k v F' H' om (E.step t) r⟩)) q
  exact h1
end
end K32
end
section
set_option Elab.async false
set_option linter.all false
set_option maxRecDepth 100000
set_option maxHeartbeats 4000000
namespace K32
open PySem PySem.Spec PyProof.Rows L2

/-! ### the Draft -/
structure DrT (K : PySem.W.Frag) : Prop where
  cl : Cls K (drC K)
  nP : NoAttr K (drC K) "path"
  nS : NoAttr K (drC K) "siblings"
  nR : NoAttr K (drC K) "records"
  nA : NoAttr K (drC K) "addresses"
  nF : NoAttr K (drC K) "fresh"
theorem lk_eq {α : Type} {k : Str} {v : α} {r : List (Str × α)} : List.lookup k ((k, v) :: r) = some v := by simp [List.lookup]
theorem lk_ne {α : Type} {k j : Str} {v : α} {r : List (Str × α)} (h : ¬ k = j) : List.lookup k ((j, v) :: r) = List.lookup k r := by
  have hb : (k == j) = false := beq_eq_false_iff_ne.mpr h
  simp only [List.lookup, hb]
theorem sn1 : ¬ ("siblings" : Str) = "path" := by decide +kernel
theorem sn2 : ¬ ("records" : Str) = "path" := by decide +kernel
theorem sn3 : ¬ ("records" : Str) = "siblings" := by decide +kernel
theorem sn4 : ¬ ("addresses" : Str) = "path" := by decide +kernel
theorem sn5 : ¬ ("addresses" : Str) = "siblings" := by decide +kernel
theorem sn6 : ¬ ("addresses" : Str) = "records" := by decide +kernel
theorem sn7 : ¬ ("fresh" : Str) = "path" := by decide +kernel
theorem sn8 : ¬ ("fresh" : Str) = "siblings" := by decide +kernel
theorem sn9 : ¬ ("fresh" : Str) = "records" := by decide +kernel
theorem sn10 : ¬ ("fresh" : Str) = "addresses" := by decide +kernel
section
variable {vp vs : V} {l1 l2 : Addr} {n n' : Int}
theorem drF_path : (drF vp vs l1 l2 n).lookup ("path" : Str) = some vp := lk_eq
theorem drF_sibs : (drF vp vs l1 l2 n).lookup ("siblings" : Str) = some vs := by unfold drF; rw [lk_ne sn1, lk_eq]
theorem drF_recs : (drF vp vs l1 l2 n).lookup ("records" : Str) = some (.ref l1) := by unfold drF; rw [lk_ne sn2, lk_ne sn3, lk_eq]
theorem drF_adrs : (drF vp vs l1 l2 n).lookup ("addresses" : Str) = some (.ref l2) := by unfold drF; rw [lk_ne sn4, lk_ne sn5, lk_ne sn6, lk_eq]
theorem drF_fresh : (drF vp vs l1 l2 n).lookup ("fresh" : Str) = some (.int n) := by unfold drF; rw [lk_ne sn7, lk_ne sn8, lk_ne sn9, lk_ne sn10, lk_eq]
theorem drF_none {m : Str} (h1 : ¬ m = "path") (h2 : ¬ m = "siblings") (h3 : ¬ m = "records") (h4 : ¬ m = "addresses") (h5 : ¬ m = "fresh") : (drF vp vs l1 l2 n).lookup m = none := by
  unfold drF
  rw [lk_ne h1, lk_ne h2, lk_ne h3, lk_ne h4, lk_ne h5]
  rfl
theorem putF_eq {k : Str} {v w : V} {r : List (Str × V)} : putF k v ((k, w) :: r) = (k, v) :: r := by unfold putF; rw [if_pos rfl]
theorem putF_ne {k j : Str} {v w : V} {r : List (Str × V)} (h : ¬ k = j) : putF k v ((j, w) :: r) = (j, w) :: putF k v r := by
  show (if j = k then (j, v) :: r else (j, w) :: putF k v r) = _
  rw [if_neg (fun q => h q.symm)]
theorem drF_put : putF "fresh" (.int n') (drF vp vs l1 l2 n) = drF vp vs l1 l2 n' := by
  unfold drF
  rw [putF_ne sn7, putF_ne sn8, putF_ne sn9, putF_ne sn10, putF_eq]
end
section
variable {X : Cx} {b : Bool} {a c e w : Expr} {es : List Expr} {fa fc f fw : FD} {l : List FD} {pos p p2 : Pos} {k k' : Nat} {x y z : Str} {s : Stmt} {ss : List Stmt} {g g' : FS} {m : FM} {r r' : R2} {dop dop' : D → D → Option D}

def atOb (i : Nat) (ρ : En) : Option Dr := match ρ[i]? with
  | some (some (.ob st)) => some st
  | _ => none
theorem atOb_some {i : Nat} {ρ : En} {st : Dr} (h : atOb i ρ = some st) : ρ[i]? = some (some (.ob st)) := by
  unfold atOb at h
  split at h
  · rename_i st' q
    cases h
    exact q
  · cases h
/-- self.path, self.siblings, self.fresh -/
def fFld (sel : Dr → D) (i : Nat) : FD := fun ρ => (atOb i ρ).map sel
theorem de_path (i : Nat) (T : DrT X.K) (ho : PE X a (tVar i)) (hb : attributeBase a "path" X.env (eval a X.env) = eval a X.env := by rfl) : DE X b (.Attribute a "path" pos) (fFld Dr.path i) := PE.weak (pe_fld ho hb) fun σ H Q ⟨F, ρ, om, d, E, e, k⟩ => by
  obtain ⟨st, e1, rfl⟩ := Option.map_eq_some_iff.mp e
  obtain ⟨v, ev, q, dx, vp, vs, l1, l2, k1, k2, rfl, eo, n1, n2, n3, hp, r1, r2, h1, r3, h2, r4⟩ := E.sl i _ (atOb_some e1)
  exact ⟨_, ev, q, _, dx, _, _, rfl, hp, T.cl, T.nP, drF_path, k _ F H (.refl E.sub) r1⟩
theorem de_sibs (i : Nat) (T : DrT X.K) (ho : PE X a (tVar i)) (hb : attributeBase a "siblings" X.env (eval a X.env) = eval a X.env := by rfl) : DE X b (.Attribute a "siblings" pos) (fFld Dr.sibs i) := PE.weak (pe_fld ho hb) fun σ H Q ⟨F, ρ, om, d, E, e, k⟩ => by
  obtain ⟨st, e1, rfl⟩ := Option.map_eq_some_iff.mp e
  obtain ⟨v, ev, q, dx, vp, vs, l1, l2, k1, k2, rfl, eo, n1, n2, n3, hp, r1, r2, h1, r3, h2, r4⟩ := E.sl i _ (atOb_some e1)
  exact ⟨_, ev, q, _, dx, _, _, rfl, hp, T.cl, T.nS, drF_sibs, k _ F H (.refl E.sub) r2⟩
def drFr (st : Dr) : D := .int st.fresh
def drRc (st : Dr) : D := .dic st.recs
def drAd (st : Dr) : D := .dic st.adrs
theorem de_fresh (i : Nat) (T : DrT X.K) (ho : PE X a (tVar i)) (hb : attributeBase a "fresh" X.env (eval a X.env) = eval a X.env := by rfl) : DE X b (.Attribute a "fresh" pos) (fFld drFr i) := PE.weak (pe_fld ho hb) fun σ H Q ⟨F, ρ, om, d, E, e, k⟩ => by
  obtain ⟨st, e1, rfl⟩ := Option.map_eq_some_iff.mp e
  obtain ⟨v, ev, q, dx, vp, vs, l1, l2, k1, k2, rfl, eo, n1, n2, n3, hp, r1, r2, h1, r3, h2, r4⟩ := E.sl i _ (atOb_some e1)
  exact ⟨_, ev, q, _, dx, _, _, rfl, hp, T.cl, T.nF, drF_fresh, k _ F H (.refl E.sub) (.int _)⟩
theorem dc_recs (i : Nat) (T : DrT X.K) (ho : PE X a (tVar i)) (hb : attributeBase a "records" X.env (eval a X.env) = eval a X.env := by rfl) : DC X b (.Attribute a "records" pos) (fFld drRc i) := PE.weak (pe_fld ho hb) fun σ H Q ⟨F, ρ, om, d, E, e, k⟩ => by
  obtain ⟨st, e1, rfl⟩ := Option.map_eq_some_iff.mp e
  obtain ⟨v, ev, q, dx, vp, vs, l1, l2, k1, k2, rfl, eo, n1, n2, n3, hp, r1, r2, h1, r3, h2, r4⟩ := E.sl i _ (atOb_some e1)
  exact ⟨_, ev, q, _, dx, _, _, rfl, hp, T.cl, T.nR, drF_recs, k _ F H (.refl E.sub) ⟨l1, k1, rfl, h1, r3⟩⟩
theorem dc_adrs (i : Nat) (T : DrT X.K) (ho : PE X a (tVar i)) (hb : attributeBase a "addresses" X.env (eval a X.env) = eval a X.env := by rfl) : DC X b (.Attribute a "addresses" pos) (fFld drAd i) := PE.weak (pe_fld ho hb) fun σ H Q ⟨F, ρ, om, d, E, e, k⟩ => by
  obtain ⟨st, e1, rfl⟩ := Option.map_eq_some_iff.mp e
  obtain ⟨v, ev, q, dx, vp, vs, l1, l2, k1, k2, rfl, eo, n1, n2, n3, hp, r1, r2, h1, r3, h2, r4⟩ := E.sl i _ (atOb_some e1)
  exact ⟨_, ev, q, _, dx, _, _, rfl, hp, T.cl, T.nA, drF_adrs, k _ F H (.refl E.sub) ⟨l2, k2, rfl, h2, r4⟩⟩
/-- self.records, walked -/
def fdRecs (i : Nat) : En → Option (List (Int × D)) := fun ρ => (atOb i ρ).map Dr.recs
theorem dk_recs {K : PySem.W.Frag} (i : Nat) (T : DrT K) : DkAt K (tFld K (tVar i) "records") (fdRecs i) none := ⟨fun F σ H ρ om es E e => by
  obtain ⟨st, e1, rfl⟩ := Option.map_eq_some_iff.mp e
  obtain ⟨v, ev, q, dx, vp, vs, l1, l2, k1, k2, rfl, eo, n1, n2, n3, hp, r1, r2, h1, r3, h2, r4⟩ := E.sl i _ (atOb_some e1)
  have hm : l1 ∈ om i := by rw [eo]; simp
  have hl' : H l1 = some (.dK k1) := h1.elim id fun ⟨o, q⟩ => absurd q ((E.nf rfl).2 i l1 hm o _)
  refine ⟨l1, k1, hl', r3, fun j es' hj => (by cases hj), .inl (E.fr i l1 hm), fun od Q qq => ⟨_, ev, q, _, dx, _, _, rfl, by rw [upd_ne n1]; exact hp, T.cl, T.nR, drF_recs, qq⟩⟩⟩
theorem pe_recs (i : Nat) (ho : PE X a (tVar i)) (hb : attributeBase a "records" X.env (eval a X.env) = eval a X.env := by rfl) : PE X (.Attribute a "records" pos) (tFld X.K (tVar i) "records") := pe_fld ho hb

/-! stores -/
theorem me_ob {G : Gs} {σ : L2.St} {ρ : En} {i : Nat} {st st' : Dr} (h : ρ[i]? = some (some (.ob st))) (me : ∀ st, ρ[0]? = some (some (.ob st)) → σ[0]? = some (some G.v0)) :
    ∀ st2, (ρ.set i (some (.ob st')))[0]? = some (some (.ob st2)) → σ[0]? = some (some G.v0) := fun st2 e => by
  by_cases q : i = 0
  · subst q
    exact me st h
  · rw [List.getElem?_set_ne q] at e
    exact me st2 e
def gFresh (i : Nat) : FS := fun ρ => (atOb i ρ).map fun st => .nx (ρ.set i (some (.ob { st with fresh := st.fresh - 1 })))
/-- self.fresh -= 1 -/
theorem ds_fresh (i : Nat) (T : DrT X.K) {tpos : Pos} (ho : PE X a (tVar i)) (he : PE X e (L2.tC (.int 1))) : DS X (.AugAssign (.Attribute a "fresh" tpos) .Sub e pos) (gFresh i) := PS.weak (ps_fldaug ho he in_sub) fun Ds σ H ⟨G, F, ρ, om, o, E, e, k⟩ => by
  obtain ⟨st, e1, rfl⟩ := Option.map_eq_some_iff.mp e
  have hi := atOb_some e1
  obtain ⟨v, ev, q, dx, vp, vs, l1, l2, k1, k2, rfl, eo, n1, n2, n3, hp, r1, r2, h1, r3, h2, r4⟩ := E.sl i _ hi
  have hq : q ∈ om i := by rw [eo]; simp
  refine ⟨_, ev, q, _, dx, _, _, rfl, hp, T.cl, T.nF, drF_fresh, _, _, rfl, rfl, dx, _, hp, (by show 5 < 1000; decide), ?_⟩
  rw [drF_put]
  refine k F σ _ om (E.mut (v := .ref q) hq (fun _ => ev) (fun _ _ z => nomatch z) (me_ob hi E.me) ⟨q, dx, vp, vs, l1, l2, k1, k2, rfl, eo, n1, n2, n3, upd_same, r1, r2, ?_, r3, ?_, r4⟩)
  · exact h1.elim (fun h => .inl (by rw [upd_ne n1.symm]; exact h)) fun ⟨ob, h⟩ => .inr ⟨ob, by rw [upd_ne n1.symm]; exact h⟩
  · exact h2.elim (fun h => .inl (by rw [upd_ne n2.symm]; exact h)) fun ⟨ob, h⟩ => .inr ⟨ob, by rw [upd_ne n2.symm]; exact h⟩
def gPutR (i : Nat) (fk fv : FD) : FS := fun ρ => (fv ρ).bind fun d => ((fk ρ).bind dI).bind fun n => (atOb i ρ).bind fun st => if st.recs.length < 100000 then some (.nx (ρ.set i (some (.ob { st with recs := dPut st.recs n d })))) else none
def gPutA (i : Nat) (fk fv : FD) : FS := fun ρ => (fv ρ).bind fun d => ((fk ρ).bind dI).bind fun n => (atOb i ρ).bind fun st => if st.adrs.length < 100000 then some (.nx (ρ.set i (some (.ob { st with adrs := dPut st.adrs n d })))) else none
/-- self.records[k] = v -/
theorem ds_putR (i : Nat) (T : DrT X.K) {fk fv : FD} {ke : Expr} {apos spos : Pos} (hr : Room k X.A) (ho : PE X a (tVar i)) (hk : DE X true ke fk) (hv : DE X true e fv) (hb : attributeBase a "records" X.env (eval a X.env) = eval a X.env := by rfl) (hs : swapsWith e (some (.Subscript (.Attribute a "records" apos) ke spos)) pos.line X.env = pure false := by rfl) :
    DS X (.Assign [.Subscript (.Attribute a "records" apos) ke spos] e pos) (gPutR i fk fv) := PS.weak (ps_dput (hu_of hr) (pe_fld ho hb) hk hv hs) fun Ds σ H ⟨G, F, ρ, om, o, E, e, k⟩ => by
  obtain ⟨d, e1, e⟩ := Option.bind_eq_some_iff.mp e
  obtain ⟨n, e2, e⟩ := Option.bind_eq_some_iff.mp e
  obtain ⟨st, e3, e⟩ := Option.bind_eq_some_iff.mp e
  split at e
  · rename_i hlen
    cases e
    have hi := atOb_some e3
    refine ⟨F, ρ, om, d, E.toEnR, e1, fun v F1 H1 t1 rv => ?_⟩
    have E1 := E.step t1
    obtain ⟨v', ev, q, dx, vp, vs, l1, l2, k1, k2, rfl, eo, n1, n2, n3, hp, r1, r2, h1, r3, h2, r4⟩ := E1.sl i _ hi
    refine ⟨_, ev, q, _, dx, _, _, rfl, hp, T.cl, T.nR, drF_recs, F1, ρ, om, .int n, E1.toEnR, bindI e2, fun vk F2 H2 t2 rk => ?_⟩
    have evk := rk.int_inv
    subst evk
    have E2 := E1.step t2
    have hm : l1 ∈ om i := by rw [eo]; simp
    have hl : H1 l1 = some (.dK k1) := h1.elim id fun ⟨o, q⟩ => absurd q ((E1.nf rfl).2 i l1 hm o _)
    refine ⟨l1, _, rfl, .inl ⟨k1, .inl n, t2.hh _ _ hl, rfl, by rw [r3.length]; exact line_lt hlen, rfl⟩, ?_⟩
    refine k F2 σ _ om (E2.mut (v := .ref q) hm (fun _ => ev) (fun _ _ z => nomatch z) (me_ob hi E2.me) ⟨q, dx, vp, vs, l1, l2, _, k2, rfl, eo, n1, n2, n3, ?_, r1.same t2.ff, r2.same t2.ff, .inl upd_same, (r3.same t2.ff).put (rv.same t2.ff), ?_, r4.same t2.ff⟩)
    · rw [upd_ne n1]
      exact t2.hh _ _ hp
    · exact (rd_same t2.hh h2).elim (fun h => .inl (by rw [upd_ne n3.symm]; exact h)) fun ⟨ob, h⟩ => .inr ⟨ob, by rw [upd_ne n3.symm]; exact h⟩
  · cases e
theorem ds_putA (i : Nat) (T : DrT X.K) {fk fv : FD} {ke : Expr} {apos spos : Pos} (hr : Room k X.A) (ho : PE X a (tVar i)) (hk : DE X true ke fk) (hv : DE X true e fv) (hb : attributeBase a "addresses" X.env (eval a X.env) = eval a X.env := by rfl) (hs : swapsWith e (some (.Subscript (.Attribute a "addresses" apos) ke spos)) pos.line X.env = pure false := by rfl) :
    DS X (.Assign [.Subscript (.Attribute a "addresses" apos) ke spos] e pos) (gPutA i fk fv) := PS.weak (ps_dput (hu_of hr) (pe_fld ho hb) hk hv hs) fun Ds σ H ⟨G, F, ρ, om, o, E, e, k⟩ => by
  obtain ⟨d, e1, e⟩ := Option.bind_eq_some_iff.mp e
  obtain ⟨n, e2, e⟩ := Option.bind_eq_some_iff.mp e
  obtain ⟨st, e3, e⟩ := Option.bind_eq_some_iff.mp e
  split at e
  · rename_i hlen
    cases e
    have hi := atOb_some e3
    refine ⟨F, ρ, om, d, E.toEnR, e1, fun v F1 H1 t1 rv => ?_⟩
    have E1 := E.step t1
    obtain ⟨v', ev, q, dx, vp, vs, l1, l2, k1, k2, rfl, eo, n1, n2, n3, hp, r1, r2, h1, r3, h2, r4⟩ := E1.sl i _ hi
    refine ⟨_, ev, q, _, dx, _, _, rfl, hp, T.cl, T.nA, drF_adrs, F1, ρ, om, .int n, E1.toEnR, bindI e2, fun vk F2 H2 t2 rk => ?_⟩
    have evk := rk.int_inv
    subst evk
    have E2 := E1.step t2
    have hm : l2 ∈ om i := by rw [eo]; simp
    have hl : H1 l2 = some (.dK k2) := h2.elim id fun ⟨o, q⟩ => absurd q ((E1.nf rfl).2 i l2 hm o _)
    refine ⟨l2, _, rfl, .inl ⟨k2, .inl n, t2.hh _ _ hl, rfl, by rw [r4.length]; exact line_lt hlen, rfl⟩, ?_⟩
    refine k F2 σ _ om (E2.mut (v := .ref q) hm (fun _ => ev) (fun _ _ z => nomatch z) (me_ob hi E2.me) ⟨q, dx, vp, vs, l1, l2, k1, _, rfl, eo, n1, n2, n3, ?_, r1.same t2.ff, r2.same t2.ff, ?_, r3.same t2.ff, .inl upd_same, (r4.same t2.ff).put (rv.same t2.ff)⟩)
    · rw [upd_ne n2]
      exact t2.hh _ _ hp
    · exact (rd_same t2.hh h1).elim (fun h => .inl (by rw [upd_ne n3]; exact h)) fun ⟨ob, h⟩ => .inr ⟨ob, by rw [upd_ne n3]; exact h⟩
  · cases e

/-! ### methods of the Draft -/
def CalM (P : Program) (w : World) (K : PySem.W.Frag) (mg : Str → Option Value) (base : Heap) (x : Str) (ps : List Str) (k : Nat) (sp : Sp) : Prop :=
  ∃ (f : Addr) (fd : FuncData), Meth K (drC K) x f ∧ Binds K fd ps [] ∧ FnOk P w K mg base CX0 k f fd ps sp
abbrev CalMX (X : Cx) (x : Str) (ps : List Str) (k : Nat) (sp : Sp) : Prop := CalM X.prog X.w X.K X.mg X.base x ps k sp
abbrev FMd := Dr → List D → Option (D × Dr)
def om1 (o : List Addr) : Om := fun j => if j = 0 then o else []
def spM (K : PySem.W.Frag) (fn : FMd) : Sp := fun vs H Q _ => ∃ G F v vs' own st ds d st', vs = v :: vs' ∧ EnW K G F [some v] H [some (.ob st)] (om1 own) ∧ RepL K F vs' ds ∧ fn st ds = some (d, st') ∧ ∀ r F' H' own', EnW K G F' [some v] H' [some (.ob st')] (om1 own') → Rep K F' r d → Q r H'
/-- one's own Draft at the name i, handed to a method -/
theorem EnW.lend {K : PySem.W.Frag} {G : Gs} {F H : Hp} {σ : L2.St} {ρ : En} {om : Om} (E : EnW K G F σ H ρ om) {i : Nat} {st : Dr} (h : ρ[i]? = some (some (.ob st))) :
    ∃ p dx vp vs l1 l2 n, σ[i]? = some (some (.ref p)) ∧ H p = some (.ins (drC K) dx (drF vp vs l1 l2 n)) ∧ EnW K ⟨fun a => if a ∈ om i then none else H a, F, .ref p⟩ F [some (.ref p)] H [some (.ob st)] (om1 (om i)) ∧
      ∀ st' F' H' own', EnW K ⟨fun a => if a ∈ om i then none else H a, F, .ref p⟩ F' [some (.ref p)] H' [some (.ob st')] (om1 own') → EnW K G F' σ H' (ρ.set i (some (.ob st'))) (fun j => if j = i then own' else om j) := by
  obtain ⟨v, ev, q, dx, vp, vs, l1, l2, k1, k2, rfl, eo, n1, n2, n3, hp, r1, r2, h1, r3, h2, r4⟩ := E.sl i _ h
  refine ⟨q, dx, vp, vs, l1, l2, _, ev, hp, ?_, ?_⟩
  · refine { sub := E.sub, len := rfl, sl := fun j s e => ?_, fr := fun j a hj => ?_, th := fun j a hj => ?_, nf := fun _ => ⟨(E.nf rfl).1, fun j a hj => ?_⟩, st := ⟨.refl _, fun a o e => ?_, E.sub, fun _ _ z => z, fun z => z⟩, ow0 := fun j a hj => ?_, sep := fun i' j a hi hj => ?_, me := fun _ _ => rfl }
    · cases j with
      | zero =>
        cases e
        exact ⟨_, rfl, q, dx, vp, vs, l1, l2, k1, k2, rfl, eo, n1, n2, n3, hp, r1, r2, h1, r3, h2, r4⟩
      | succ j => simp at e
    · unfold om1 at hj
      split at hj
      · exact E.fr i a hj
      · cases hj
    · unfold om1 at hj
      split at hj
      · exact E.th i a hj
      · cases hj
    · unfold om1 at hj
      split at hj
      · exact (E.nf rfl).2 i a hj
      · cases hj
    · have e' : (if a ∈ om i then none else H a) = some o := e
      split at e'
      · cases e'
      · exact e'
    · unfold om1 at hj
      split at hj
      · show (if a ∈ om i then none else H a) = none
        rw [if_pos hj]
      · cases hj
    · unfold om1 at hi hj
      split at hi
      · rename_i e1
        split at hj
        · rename_i e2
          rw [e1, e2]
        · cases hj
      · cases hi
  · intro st' F' H' own' E'
    -- what was not the Draft's is kept
    have keep : ∀ a o, a ∉ om i → H a = some o → H' a = some o := fun a o hn e => E'.st.hh a o (by show (if a ∈ om i then none else H a) = some o; rw [if_neg hn]; exact e)
    have nw : ∀ a, a ∉ om i → H a ≠ none → F a = none → F' a = none := fun a hn h1 h2 => E'.st.nw a (by show (if a ∈ om i then none else H a) ≠ none; rw [if_neg hn]; exact h1) h2
    have own_ : ∀ a, a ∈ own' → a ∈ om i ∨ H a = none := fun a ha => by
      have z := E'.ow0 0 a (by show a ∈ (if (0 : Nat) = 0 then own' else []); rw [if_pos rfl]; exact ha)
      have z' : (if a ∈ om i then none else H a) = none := z
      split at z'
      · rename_i hm
        exact .inl hm
      · exact .inr z'
    have me1 : ∀ a, a ∈ own' → a ∈ om1 own' 0 := fun a ha => by show a ∈ (if (0 : Nat) = 0 then own' else []); rw [if_pos rfl]; exact ha
    have ff : Same F F' := E'.st.ff
    have jn : ∀ j a, j ≠ i → a ∈ om j → a ∉ om i := fun j a hj ha hb => hj (E.sep j i a ha hb)
    refine { sub := E'.sub, len := by simp [E.len], sl := fun j s e => ?_, fr := fun j a hj => ?_, th := fun j a hj => ?_, nf := fun _ => ⟨(E'.nf rfl).1, fun j a hj => ?_⟩, st := ⟨E.st.ff.trans ff, fun a o e => ?_, E'.sub, fun a h1 h2 => ?_, fun _ => (E'.nf rfl).1⟩, ow0 := fun j a hj => ?_, sep := fun i' j a hi hj => ?_, me := me_ob h E.me }
    · by_cases hj : j = i
      · subst hj
        have hlt : j < ρ.length := len_of_get h
        rw [List.getElem?_set_self hlt] at e
        cases e
        obtain ⟨v, ev', z⟩ := E'.sl 0 _ rfl
        cases ev'
        refine ⟨_, ev, ?_⟩
        rw [if_pos rfl]
        exact z
      · rw [List.getElem?_set_ne (fun q => hj q.symm)] at e
        obtain ⟨v, ev', z⟩ := E.sl j s e
        refine ⟨v, ev', ?_⟩
        rw [if_neg hj]
        -- by the addresses that are its own
        cases s with
        | fz d => exact ⟨z.1, z.2.same ff⟩
        | ol ds =>
          obtain ⟨a, xs, e1, e2, h, r⟩ := z
          have hm := jn j a hj (by rw [e2]; exact List.mem_singleton.mpr rfl)
          exact ⟨a, xs, e1, e2, h.elim (fun h => .inl (keep _ _ hm h)) fun ⟨o, h⟩ => .inr ⟨o, keep _ _ hm h⟩, r.same ff⟩
        | od ds =>
          obtain ⟨a, xs, e1, e2, h, r⟩ := z
          have hm := jn j a hj (by rw [e2]; exact List.mem_singleton.mpr rfl)
          exact ⟨a, xs, e1, e2, h.elim (fun h => .inl (keep _ _ hm h)) fun ⟨o, h⟩ => .inr ⟨o, keep _ _ hm h⟩, r.same ff⟩
        | ob st2 =>
          obtain ⟨p', dx', vp', vs', m1, m2, j1, j2, e1, e2, g1, g2, g3, gp, s1, s2, g4, s3, g5, s4⟩ := z
          have a1 := jn j p' hj (by rw [e2]; simp)
          have a2 := jn j m1 hj (by rw [e2]; simp)
          have a3 := jn j m2 hj (by rw [e2]; simp)
          exact ⟨p', dx', vp', vs', m1, m2, j1, j2, e1, e2, g1, g2, g3, keep _ _ a1 gp, s1.same ff, s2.same ff, g4.elim (fun h => .inl (keep _ _ a2 h)) fun ⟨o, h⟩ => .inr ⟨o, keep _ _ a2 h⟩, s3.same ff, g5.elim (fun h => .inl (keep _ _ a3 h)) fun ⟨o, h⟩ => .inr ⟨o, keep _ _ a3 h⟩, s4.same ff⟩
    · split at hj
      · exact E'.fr 0 a (me1 a hj)
      · rename_i q
        exact nw a (jn j a q hj) (E.th j a hj) (E.fr j a hj)
    · split at hj
      · exact E'.th 0 a (me1 a hj)
      · rename_i q
        intro z
        cases e : H a with
        | none => exact E.th j a hj e
        | some o =>
          rw [keep a o (jn j a q hj) e] at z
          cases z
    · split at hj
      · exact (E'.nf rfl).2 0 a (me1 a hj)
      · rename_i q
        intro o u z
        cases e : H a with
        | none => exact E.th j a hj e
        | some o' =>
          rw [keep a o' (jn j a q hj) e] at z
          cases z
          exact (E.nf rfl).2 j a hj o u e
    · have hn : a ∉ om i := fun hm => by
        rw [E.ow0 i a hm] at e
        cases e
      exact keep a o hn (E.st.hh a o e)
    · have hn : a ∉ om i := fun hm => h1 (E.ow0 i a hm)
      exact nw a hn (fun z => h1 (E.st.hh.free z)) (E.st.nw a h1 h2)
    · split at hj
      · rcases own_ a hj with z | z
        · exact E.ow0 i a z
        · exact E.st.hh.free z
      · exact E.ow0 j a hj
    · split at hi
      · rename_i q1
        split at hj
        · rename_i q2
          rw [q1, q2]
        · rename_i q2
          rcases own_ a hi with z | z
          · exact absurd z (jn j a q2 hj)
          · exact absurd z (E.th j a hj)
      · rename_i q1
        split at hj
        · rcases own_ a hj with z | z
          · exact absurd z (jn i' a q1 hi)
          · exact absurd z (E.th i' a hi)
        · exact E.sep i' j a hi hj
end
end K32
end
section
set_option Elab.async false
set_option linter.all false
set_option maxRecDepth 100000
set_option maxHeartbeats 4000000
namespace K32
open PySem PySem.Spec PyProof.Rows L2
section
variable {X : Cx} {b : Bool} {a c e w : Expr} {es : List Expr} {fa fc f fw : FD} {l : List FD} {pos p p2 apos : Pos} {k k' : Nat} {x y z : Str} {s : Stmt} {ss : List Stmt} {g g' : FS} {m m' : FM} {ps : List Str} {fn : FMd}

/-- o.m(e, ..), o one's own Draft at the name i -/
def fMeth (fn : FMd) (i : Nat) (l : List FD) : FM := fun ρ => (fAll l ρ).bind fun ds => (atOb i ρ).bind fun st => (fn st ds).map fun q => (q.1, ρ.set i (some (.ob q.2)))
theorem nm_of {vp vs : V} {l1 l2 : Addr} {n : Int} {m : Str} (h : (decide (m = "path") || decide (m = "siblings") || decide (m = "records") || decide (m = "addresses") || decide (m = "fresh")) = false) : (drF vp vs l1 l2 n).lookup m = none := by
  simp only [Bool.or_eq_false_iff, decide_eq_false_iff_not] at h
  exact drF_none h.1.1.1.1 h.1.1.1.2 h.1.1.2 h.1.2 h.2
theorem meth_w {K : PySem.W.Frag} {i : Nat} {ta : TA} (hx : (decide (x = "path") || decide (x = "siblings") || decide (x = "records") || decide (x = "addresses") || decide (x = "fresh")) = false)
    (ha : ∀ σ H Q, tA K true (fAll l) σ H Q → ta σ H Q) {σ : L2.St} {H : Hp} {Q : VK} (q : tM K (fMeth fn i l) σ H Q) : tMeth (drC K) x (spM K fn) [] E0 (tVar i) ta σ H Q := by
  obtain ⟨G, F, ρ, om, d, ρ', E, e, k⟩ := q
  obtain ⟨ds, e1, e⟩ := Option.bind_eq_some_iff.mp e
  obtain ⟨st, e2, e⟩ := Option.bind_eq_some_iff.mp e
  obtain ⟨⟨d', st'⟩, e3, e4⟩ := Option.map_eq_some_iff.mp e
  cases e4
  have hi := atOb_some e2
  obtain ⟨p, dx, vp, vs, l1, l2, n, ev, hp, _, _⟩ := E.lend hi
  refine ⟨_, ev, p, dx, _, rfl, hp, nm_of hx, ha σ H _ ⟨F, ρ, om, ds, E.toEnR, e1, fun vs F1 H1 t1 r1 => ?_⟩⟩
  obtain ⟨p2, dx2, vp2, vs2, l12, l22, n2, ev2, hp2, EL, back⟩ := (E.step t1).lend hi
  rw [ev] at ev2
  cases ev2
  refine ⟨_, F1, _, vs, om i, st, ds, _, _, by rw [List.append_nil], EL, r1, e3, fun r F' H' own' E' r' => ?_⟩
  exact k r F' H' _ (back _ F' H' own' E') r'
theorem dm_meth {i : Nat} (T : DrT X.K) (C : CalMX X x ps k (spM X.K fn)) (hr : Room k' X.A) (hk : k ≤ k') (ho : PE X a (tVar i)) (ha : DA X true (e :: es) (fAll l)) (hx : (decide (x = "path") || decide (x = "siblings") || decide (x = "records") || decide (x = "addresses") || decide (x = "fresh")) = false)
    {pl : Sem Bool} (hst : starEach (e :: es) X.env = (false, eval e X.env) :: starEach es X.env := by rfl) (hpl : (backTo pos (starEach es X.env)).any (·.1) = false := by rfl)
    (ht : eval (.Call (.Attribute a x apos) (e :: es) [] pos) X.env = (do
      let ov ← eval a X.env
      standAt apos.atName
      let (f, first) ← holding [ov] (getMethod ov x pl)
      callWith pos f first (backTo pos (starEach (e :: es) X.env)) (backToKw pos (keywordEach [] X.env))) := by rfl) :
    DM X (.Call (.Attribute a x apos) (e :: es) [] pos) (fMeth fn i l) := by
  obtain ⟨f, fd, hm, hb, F⟩ := C
  exact PE.weak (pe_meth (pl := pl) ho T.cl hm F (hr.mono hk) hb .nil pass0 ha hst hpl ht) fun _ _ _ q => meth_w hx (fun _ _ _ q => q) q
theorem dm_meth0 {i : Nat} (T : DrT X.K) (C : CalMX X x ps k (spM X.K fn)) (hr : Room k' X.A) (hk : k ≤ k') (ho : PE X a (tVar i)) (hx : (decide (x = "path") || decide (x = "siblings") || decide (x = "records") || decide (x = "addresses") || decide (x = "fresh")) = false)
    {pl : Sem Bool} (ht : eval (.Call (.Attribute a x apos) [] [] pos) X.env = (do
      let ov ← eval a X.env
      standAt apos.atName
      let (f, first) ← holding [ov] (getMethod ov x pl)
      callWith pos f first (backTo pos (starEach [] X.env)) (backToKw pos (keywordEach [] X.env))) := by rfl) :
    DM X (.Call (.Attribute a x apos) [] [] pos) (fMeth fn i []) := by
  obtain ⟨f, fd, hm, hb, F⟩ := C
  exact PE.weak (pe_meth0 (pl := pl) ho T.cl hm F (hr.mono hk) hb .nil pass0 ht) fun _ _ _ q => meth_w hx (fun σ H Q ⟨F, ρ, om, ds, E, e, k⟩ => by cases e; exact k [] F H (.refl E.sub) .nil) q
/-! tuples whose items may change the Draft -/
abbrev FA := En → Option (List D × En)
def tAM (K : PySem.W.Frag) (f : FA) : TA := fun σ H Q => ∃ G F ρ om ds ρ', EnW K G F σ H ρ om ∧ f ρ = some (ds, ρ') ∧ ∀ vs F' H' om', EnW K G F' σ H' ρ' om' → RepL K F' vs ds → Same F F' → Q vs H'
abbrev DAM (X : Cx) (es : List Expr) (f : FA) : Prop := PA X es (tAM X.K f)
def fAllM : List FM → FA
  | [], ρ => some ([], ρ)
  | m :: ms, ρ => (m ρ).bind fun q => (fAllM ms q.2).map fun r => (q.1 :: r.1, r.2)
theorem fAllM_length : ∀ {l : List FM} {ρ ρ' : En} {ds : List D}, fAllM l ρ = some (ds, ρ') → ds.length = l.length
  | [], ρ, _, ds, h => by cases h; rfl
  | f :: fs, ρ, _, ds, h => by
    obtain ⟨d, e1, h⟩ := Option.bind_eq_some_iff.mp h
    obtain ⟨⟨es, ρ2⟩, e2, h⟩ := Option.map_eq_some_iff.mp h
    cases h
    simp [fAllM_length e2]
variable {ms : List FM}
theorem EnW.from {K : PySem.W.Frag} {G : Gs} {F F' H H' : Hp} {σ : L2.St} {ρ ρ' : En} {om om' : Om} (E : EnW K G F σ H ρ om) (E' : EnW K ⟨G.H0, F, G.v0⟩ F' σ H' ρ' om') : EnW K G F' σ H' ρ' om' := E'.base E.st
theorem dam_nil : DAM X [] (fAllM []) := PA.weak pa_nil fun σ H Q ⟨G, F, ρ, om, ds, ρ', E, e, k⟩ => by cases e; exact k [] F H om E .nil (.refl _)
theorem dam_cons (h : DM X e m) (hr : DAM X es (fAllM ms)) (hs : starEach (e :: es) X.env = (false, eval e X.env) :: starEach es X.env := by rfl) : DAM X (e :: es) (fAllM (m :: ms)) := PA.weak (pa_cons h hr hs) fun σ H Q ⟨G, F, ρ, om, ds, ρ', E, e, k⟩ => by
  obtain ⟨⟨d, ρ1⟩, e1, e⟩ := Option.bind_eq_some_iff.mp e
  obtain ⟨⟨es, ρ2⟩, e2, e⟩ := Option.map_eq_some_iff.mp e
  cases e
  refine ⟨⟨G.H0, F, G.v0⟩, F, ρ, om, d, ρ1, E.rebase, e1, fun v F1 H1 om1 E1 r1 => ⟨⟨G.H0, F1, G.v0⟩, F1, ρ1, om1, es, _, E1.rebase, e2, fun vs F2 H2 om2 E2 r2 s2 => ?_⟩⟩
  have E2' : EnW X.K ⟨G.H0, F, G.v0⟩ F2 σ H2 _ om2 := E1.from E2
  exact k (v :: vs) F2 H2 om2 (E.from E2') (.cons (r1.same s2) r2) E2'.st.ff
def fTupM (ms : List FM) : FM := fun ρ => (fAllM ms ρ).map fun q => (.tup q.1, q.2)
theorem dm_tup {x1} (h : DAM X es (fAllM ms)) (hl : ms.length ≤ 100000 := by decide) : DM X (.Tuple es x1 pos) (fTupM ms) := PE.weak (pe_tup h) fun σ H Q ⟨G, F, ρ, om, d, ρ', E, e, k⟩ => by
  obtain ⟨⟨ds, ρ1⟩, e1, e2⟩ := Option.map_eq_some_iff.mp e
  cases e2
  refine ⟨G, F, ρ, om, ds, _, E, e1, fun vs F1 H1 om1 E1 r1 s1 => ⟨by rw [r1.length, fAllM_length e1]; exact line_of hl, fun q hq => ?_⟩⟩
  exact k _ _ _ om1 (E1.step (.new E1.sub hq (fun _ _ z => nomatch z))) (rep_newT E1.sub hq r1)

/-! ### Draft(path, siblings) -/
def spInit (K : PySem.W.Frag) : Sp := fun vs H Q _ => ∃ (x dx : Addr) (v1 v2 : V), vs = [.ref x, v1, v2] ∧ H x = some (.ins (drC K) dx []) ∧
  ∀ H' l1 l2, H l1 = none → H l2 = none → l1 ≠ l2 → (∀ a o, a ≠ x → H a = some o → H' a = some o) → H' l1 = some (.dK []) → H' l2 = some (.dK []) → H' x = some (.ins (drC K) dx (drF v1 v2 l1 l2 0)) → Q .non H'
def gMake (i : Nat) (l : List FD) : FS := fun ρ => (fAll l ρ).bind fun ds => match ds with
  | [d1, d2] => some (.nx (ρ.set i (some (.ob ⟨d1, d2, [], [], 0⟩))))
  | _ => none
theorem ds_make {i : Nat} {pos' pc : Pos} {fI : Addr} {fdI : FuncData} (hi0 : i ≠ 0) (hN : X.N.Nodup) (hi : X.N[i]? = some x) (hx : Loc X.env.scope x) (M : Mk X.K (drC X.K) fI) (FI : FnOk X.prog X.w X.K X.mg X.base CX0 k fI fdI ps (spInit X.K)) (hr : Room k' X.A) (hk : k + 1 ≤ k') (hg : Gl X "Draft") (hm : X.mg "Draft" = some (.ref (drC X.K)))
    (hb : Binds X.K fdI ps []) (ha : DA X true (e :: es) (fAll l)) (he : starEach (e :: es) X.env = (false, eval e X.env) :: starEach es X.env := by rfl) (hpl : (backTo p (starEach es X.env)).any (·.1) = false := by rfl)
    (hs : swapsWith (.Call (.Name "Draft" pc) (e :: es) [] p) (some (.Name x pos')) pos.line X.env = pure false := by rfl) (hf : X.fn x = true ∨ X.env.scope.names.lookup x = some .local := by first | exact .inl rfl | exact .inr rfl | assumption) :
    DS X (.Assign [.Name x pos'] (.Call (.Name "Draft" pc) (e :: es) [] p) pos) (gMake i l) :=
  PS.weak (ps_set hN hi hx (pe_make M FI (hr.mono hk) hg hm hb .nil pass0 ha (by decide) he hpl) hs hf) fun Ds σ H ⟨G, F, ρ, om, o, E, e, k⟩ => by
    obtain ⟨ds, e1, e2⟩ := Option.bind_eq_some_iff.mp e
    match ds, e1, e2 with
    | [d1, d2], e1, e2 =>
      cases e2
      refine ⟨F, ρ, om, _, E.toEnR, e1, fun vs F1 H1 t1 r1 => ?_⟩
      have E1 := E.step t1
      match vs, r1 with
      | [v1, v2], .cons r (.cons r' .nil) =>
        intro q dx nq ndx nex
        refine ⟨q, dx, v1, v2, rfl, upd_same, fun H' l1 l2 a1 a2 a3 keep h1 h2 hq => ⟨rfl, ?_⟩⟩
        -- from H1: the dict's owner, the instance, two dicts are new
        have s0 : Same H1 H' := fun a o h => by
          have n1 : a ≠ q := ne_of_none h nq
          have n2 : a ≠ dx := ne_of_none h ndx
          exact keep a o n1 (by rw [upd_ne n1, upd_ne n2]; exact h)
        have nl1 : l1 ≠ q := fun z => by rw [z, upd_same] at a1; cases a1
        have nl2 : l2 ≠ q := fun z => by rw [z, upd_same] at a2; cases a2
        have m1 : l1 ≠ dx := fun z => by rw [upd_ne nl1, z, upd_same] at a1; cases a1
        have m2 : l2 ≠ dx := fun z => by rw [upd_ne nl2, z, upd_same] at a2; cases a2
        have f1 : H1 l1 = none := by rw [upd_ne nl1, upd_ne m1] at a1; exact a1
        have f2 : H1 l2 = none := by rw [upd_ne nl2, upd_ne m2] at a2; exact a2
        have new : ∀ a, a ∈ [q, l1, l2] → H1 a = none ∧ ∃ o, H' a = some o ∧ ∀ b u, o ≠ .frz b u := fun a ha => by
          rcases List.mem_cons.mp ha with rfl | ha
          · exact ⟨nq, _, hq, fun _ _ z => nomatch z⟩
          · rcases List.mem_cons.mp ha with rfl | ha
            · exact ⟨f1, _, h1, fun _ _ z => nomatch z⟩
            · rw [List.mem_singleton.mp ha]
              exact ⟨f2, _, h2, fun _ _ z => nomatch z⟩
        refine k F1 _ _ (fun j => if j = i then [q, l1, l2] else om j) { sub := E1.sub.trans s0, len := by simp [E1.len], sl := fun j s e => ?_, fr := fun j a hj => ?_, th := fun j a hj => ?_, nf := fun _ => ⟨(E1.nf rfl).1, fun j a hj => ?_⟩, st := E1.st.trans ⟨.refl _, s0, E1.sub.trans s0, fun _ _ z => z, fun z => z⟩, ow0 := fun j a hj => ?_, sep := fun i' j a hi hj => ?_, me := fun st e => ?_ }
        · by_cases hj : j = i
          · subst hj
            have hlt : j < ρ.length := by
              have := len_of_get e
              simpa using this
            rw [List.getElem?_set_self hlt] at e
            cases e
            refine ⟨.ref q, by rw [List.getElem?_set_self (by rw [E1.len]; exact hlt)], ?_⟩
            rw [if_pos rfl]
            exact ⟨q, dx, v1, v2, l1, l2, [], [], rfl, rfl, nl1.symm, nl2.symm, a3, hq, r, r', .inl h1, .nil, .inl h2, .nil⟩
          · rw [List.getElem?_set_ne (fun z => hj z.symm)] at e
            obtain ⟨v, ev, z⟩ := E1.sl j s e
            refine ⟨v, by rw [List.getElem?_set_ne (fun z => hj z.symm)]; exact ev, ?_⟩
            rw [if_neg hj]
            exact z.step (.refl _) s0
        · split at hj
          · exact E1.sub.free (new a hj).1
          · exact E1.fr j a hj
        · split at hj
          · obtain ⟨_, o, ho, _⟩ := new a hj
            rw [ho]
            exact fun z => nomatch z
          · exact fun z => E1.th j a hj (s0.free z)
        · split at hj
          · obtain ⟨_, o, ho, hz⟩ := new a hj
            rw [ho]
            exact fun b u z => hz b u (Option.some.inj z)
          · intro b u z
            cases eh : H1 a with
            | none => exact E1.th j a hj eh
            | some o' =>
              rw [s0 a o' eh] at z
              cases z
              exact (E1.nf rfl).2 j a hj b u eh
        · split at hj
          · exact E1.st.hh.free (new a hj).1
          · exact E1.ow0 j a hj
        · split at hi
          · rename_i q1
            split at hj
            · rename_i q2
              rw [q1, q2]
            · exact absurd (new a hi).1 (E1.th j a hj)
          · split at hj
            · exact absurd (new a hj).1 (E1.th i' a hi)
            · exact E1.sep i' j a hi hj
        · rw [List.getElem?_set_ne hi0] at e ⊢
          exact E1.me st e
end

/-! ### the methods' promises -/
def env0M (n : Nat) (st : Dr) (ds : List D) : En := some (.ob st) :: env0 (n - 1) ds
def outM : Out → Option (D × Dr)
  | .nx ρ => (atOb 0 ρ).map fun st => (.non, st)
  | .rt d ρ => (atOb 0 ρ).map fun st => (d, st)
  | .bk _ => none
def fnOfM (n ps : Nat) (g : FS) : FMd := fun st ds => if ds.length = ps then (g (env0M n st ds)).bind outM else none
theorem EnW.one {K : PySem.W.Frag} {G : Gs} {F H : Hp} {σ : L2.St} {ρ : En} {om : Om} (E : EnW K G F σ H ρ om) {st : Dr} (h : atOb 0 ρ = some st) : EnW K G F [some G.v0] H [some (.ob st)] (om1 (om 0)) := by
  have h0 := atOb_some h
  have ev := E.me st h0
  refine { sub := E.sub, len := rfl, sl := fun j s e => ?_, fr := fun j a hj => ?_, th := fun j a hj => ?_, nf := fun _ => ⟨(E.nf rfl).1, fun j a hj => ?_⟩, st := E.st, ow0 := fun j a hj => ?_, sep := fun i' j a hi hj => ?_, me := fun _ _ => rfl }
  · cases j with
    | zero =>
      cases e
      obtain ⟨v, ev', z⟩ := E.sl 0 _ h0
      rw [ev] at ev'
      cases ev'
      exact ⟨_, rfl, z⟩
    | succ j => simp at e
  · unfold om1 at hj
    split at hj
    · exact E.fr 0 a hj
    · cases hj
  · unfold om1 at hj
    split at hj
    · exact E.th 0 a hj
    · cases hj
  · unfold om1 at hj
    split at hj
    · exact (E.nf rfl).2 0 a hj
    · cases hj
  · unfold om1 at hj
    split at hj
    · exact E.ow0 0 a hj
    · cases hj
  · unfold om1 at hi hj
    split at hi
    · rename_i e1
      split at hj
      · rename_i e2
        rw [e1, e2]
      · cases hj
    · cases hi
theorem env0M_W {K : PySem.W.Frag} {G : Gs} {F H : Hp} {n : Nat} {N : List Str} {v : V} {vs : List V} {st : Dr} {ds : List D} {own : List Addr} (hN : N.length = n + 1) (E : EnW K G F [some v] H [some (.ob st)] (om1 own)) (r : RepL K F vs ds) :
    EnW K G F (L2.start N (v :: vs)) H (env0M N.length st ds) (om1 own) := by
  have ev := E.me st rfl
  have es : L2.start N (v :: vs) = some v :: (vs.map some ++ List.replicate (n - vs.length) none) := by
    unfold L2.start
    rw [hN]
    simp
  have hl := r.length
  refine { sub := E.sub, len := ?_, sl := fun j s e => ?_, fr := E.fr, th := E.th, nf := E.nf, st := E.st, ow0 := E.ow0, sep := E.sep, me := fun st' e => ?_ }
  · rw [es, hN]
    simp [env0M, env0, hl]
  · rw [es]
    cases j with
    | zero =>
      obtain ⟨v', ev', z⟩ := E.sl 0 s e
      cases ev'
      exact ⟨_, rfl, z⟩
    | succ j =>
      have e' : (env0 (N.length - 1) ds)[j]? = some (some s) := e
      rw [hN] at e'
      have e2 : (env0 n ds)[j]? = some (some s) := e'
      unfold env0 at e2
      have o0 : om1 own (j + 1) = [] := rfl
      rw [o0]
      by_cases hi : j < ds.length
      · rw [List.getElem?_append_left (by simpa using hi), List.getElem?_map] at e2
        obtain ⟨d, e3, e4⟩ := Option.map_eq_some_iff.mp e2
        cases e4
        obtain ⟨w, e5, rw'⟩ := r.get e3
        refine ⟨w, ?_, rfl, rw'⟩
        rw [List.getElem?_cons_succ, List.getElem?_append_left (by simpa [hl] using hi), List.getElem?_map, e5]
        rfl
      · rw [List.getElem?_append_right (by simpa using hi)] at e2
        exact absurd e2 repl_none
  · rw [es]
    exact ev
section
variable {P : Program} {w : World} {K : PySem.W.Frag} {mg : Str → Option Value} {base : Heap}
theorem calM_of {x qual : Str} {st : Stmt} {f : Addr} {fd : FuncData} {N ps : List Str} {k n np : Nat} {g : FS} (hN : N.length = n + 1) (hps : ps.length = np + 1) (F : FunD K x qual (defArgs st) (defBody st) (defScope st) [] [] f fd) (M : Meth K (drC K) x f) (S : FnScope N ps (defScope st)) (hb : Binds K fd ps [])
    (body : ∀ (cdv : Value) (A : Around) (outer : List Env) (s : Shared) (H : Hp) (E : XK), Room k (A.deeper (envOfC qual (defScope st) s.heap.objs.size f cdv)) → DSs (cxOf CX0 P w K mg base N qual (defScope st) f cdv A outer s H E).nox (defBody st) g) :
    CalM P w K mg base x ps (k + 1) (spM K (fnOfM N.length np g)) := by
  refine ⟨f, fd, M, hb, F.ok S (fun vs H Q E h => ?_) (fun cdv A outer s H vs Q E hr h => ?_)⟩
  · obtain ⟨G, F, v, vs', own, st, ds, d, st', rfl, _, r, e, _⟩ := h
    unfold fnOfM at e
    split at e
    · rename_i hl
      rw [List.length_cons, r.length, hl, hps]
    · cases e
  · obtain ⟨G, F, v, vs', own, st0, ds, d, st', rfl, E0, r, e, q⟩ := h
    unfold fnOfM at e
    split at e
    · obtain ⟨o, e1, e2⟩ := Option.bind_eq_some_iff.mp e
      have ev : v = G.v0 := by
        have z := E0.me st0 rfl
        cases z
        rfl
      refine ⟨tS K g, PSs.nox (body cdv A outer s H E hr), G, F, _, _, o, env0M_W hN E0 r, e1, ?_⟩
      cases o with
      | nx ρ' =>
        obtain ⟨st2, e3, e4⟩ := Option.map_eq_some_iff.mp e2
        cases e4
        exact fun F' σ' H' om' E' => q .non F' H' (om' 0) (by rw [ev]; exact E'.one e3) .non
      | rt d' ρ' =>
        obtain ⟨st2, e3, e4⟩ := Option.map_eq_some_iff.mp e2
        cases e4
        exact fun v2 F' σ' H' om' E' r' => q v2 F' H' (om' 0) (by rw [ev]; exact E'.one e3) r'
      | bk ρ' => cases e2
    · cases e
end
end K32
end
section
set_option Elab.async false
set_option linter.all false
set_option maxRecDepth 100000
set_option maxHeartbeats 4000000
/-! the text by places, and what is leant on of the top -/
namespace K32
open PySem PySem.Spec PyProof.Rows L2
def top (i : Nat) : Stmt := PySem.Challenge.pw_espalier_k32_whole_plans_that_commute.main.body.getD i (.Pass ⟨0, 0, 0, 0⟩)
abbrev s_is_integer : Stmt := top 7
abbrev s_is_bound : Stmt := top 8
abbrev s_are_integers : Stmt := top 9
abbrev s_are_ascending : Stmt := top 10
abbrev s_is_above : Stmt := top 11
abbrev s_is_below : Stmt := top 12
abbrev s_is_leaf : Stmt := top 13
abbrev s_is_inner : Stmt := top 14
abbrev s_is_record : Stmt := top 15
abbrev s_checked : Stmt := top 16
abbrev s_leaf : Stmt := top 17
abbrev s_inner : Stmt := top 18
abbrev s_level_of : Stmt := top 19
abbrev s_bounds_of : Stmt := top 20
abbrev s_size_of : Stmt := top 21
abbrev s_value_in : Stmt := top 22
abbrev s_place_of : Stmt := top 23
abbrev s_child_bounds : Stmt := top 24
abbrev s_with_value : Stmt := top 25
abbrev s_without_key : Stmt := top 26
abbrev s_with_child : Stmt := top 27
abbrev s_without_child : Stmt := top 28
abbrev s_with_separator : Stmt := top 29
abbrev s_cut : Stmt := top 30
abbrev s_joined : Stmt := top 31
abbrev s_leaf_change : Stmt := top 33
abbrev s_most_of : Stmt := top 34
abbrev s_Draft_init : Stmt := inClass (top 35) 0
abbrev s_Draft_give : Stmt := inClass (top 35) 1
abbrev s_Draft_add_page : Stmt := inClass (top 35) 2
abbrev s_Draft_entries : Stmt := inClass (top 35) 3
abbrev s_Draft_place_in_parent : Stmt := inClass (top 35) 4
abbrev s_Draft_settle : Stmt := inClass (top 35) 5
abbrev s_Draft_divide : Stmt := inClass (top 35) 6
abbrev s_Draft_unite : Stmt := inClass (top 35) 7
abbrev s_Draft_unite_pair : Stmt := inClass (top 35) 8
abbrev s_plan : Stmt := top 36
abbrev s_new_pages : Stmt := top 37
abbrev s_real_page : Stmt := top 38
abbrev s_placed : Stmt := top 39
abbrev s_law_cell : Stmt := top 41
abbrev s_law_digits : Stmt := top 42
abbrev s_law_many : Stmt := top 43
abbrev s_law_call : Stmt := top 44
abbrev s_law_due : Stmt := top 45
abbrev s_law_covers : Stmt := top 46
abbrev s_law_walk : Stmt := top 47
abbrev s_law_planned : Stmt := top 48
abbrev s_law_free : Stmt := top 49
abbrev s_law_applied : Stmt := top 50
abbrev s_law_ascending : Stmt := top 51
abbrev s_law_below : Stmt := top 52
abbrev s_law_fits : Stmt := top 53
abbrev s_law_map : Stmt := top 54
abbrev s_law_start : Stmt := top 55
abbrev s_law_filled : Stmt := top 56
abbrev s_law_pages_of : Stmt := top 57
abbrev s_law_both : Stmt := top 58
abbrev s_law_alone : Stmt := top 59
abbrev s_law : Stmt := top 60
structure Txt (P : Program) (w : World) (K : PySem.W.Frag) (mg : Str → Option Value) (base : Heap) : Prop where
  len : mg "len" = none
  isinstance : mg "isinstance" = none
  all : mg "all" = none
  range : mg "range" = none
  tuple : mg "tuple" = none
  list : mg "list" = none
  dict : mg "dict" = none
  sorted : mg "sorted" = none
  max : mg "max" = none
  min : mg "min" = none
  int : mg "int" = none
  bool : mg "bool" = none
  leafMost : ∃ t, mg "LEAF_MOST" = some (.int 4 t)
  innerMost : ∃ t, mg "INNER_MOST" = some (.int 5 t)
  least : ∃ t, mg "LEAST" = some (.int 2 t)
  dr : DrT K
  draft : mg "Draft" = some (.ref (drC K))
theorem boot_len' : bootBuiltins "len" = some (.builtin "len") := by decide +kernel
theorem boot_all' : bootBuiltins "all" = some (.builtin "all") := by decide +kernel
theorem boot_max' : bootBuiltins "max" = some (.builtin "max") := by decide +kernel
theorem boot_min' : bootBuiltins "min" = some (.builtin "min") := by decide +kernel
theorem boot_sorted' : bootBuiltins "sorted" = some (.builtin "sorted") := by decide +kernel
theorem boot_tuple' : bootBuiltins "tuple" = some (.type "tuple") := by decide +kernel
theorem boot_list' : bootBuiltins "list" = some (.type "list") := by decide +kernel
theorem boot_dict' : bootBuiltins "dict" = some (.type "dict") := by decide +kernel
theorem boot_int' : bootBuiltins "int" = some (.type "int") := by decide +kernel
theorem boot_bool' : bootBuiltins "bool" = some (.type "bool") := by decide +kernel
theorem boot_isi' : bootBuiltins "isinstance" = some (.builtin "isinstance") := by decide +kernel
end K32
end
section
set_option Elab.async false
set_option linter.all false
set_option maxRecDepth 100000
set_option maxHeartbeats 4000000
namespace K32
open PySem PySem.Spec PyProof.Rows L2
/-! the data functions of the defs, printed by gen.py -/
def N_is_integer : List Str := ["value"]
def g_is_integer : FS :=
  (gRet (fM (fAnd (f1 (dIsi "int") (fVar 0)) (fNot (f1 (dIsi "bool") (fVar 0))))))
def fn_is_integer : List D → Option D := fnOf 1 1 g_is_integer
def N_is_bound : List Str := ["value"]
def g_is_bound : FS :=
  (gRet (fM (fOr (f2 dIsN (fVar 0) (fC .non)) (fCall fn_is_integer [(fVar 0)]))))
def fn_is_bound : List D → Option D := fnOf 1 1 g_is_bound
def N_are_integers : List Str := ["values", "value"]
def g_are_integers : FS :=
  (gRet (fM (fAnd (f1 (dIsi "tuple") (fVar 0)) (f1 dAll (fLc (iT (fVar 0)) fYes (fCall fn_is_integer [(fVar 1)]) 1)))))
def fn_are_integers : List D → Option D := fnOf 2 1 g_are_integers
def N_are_ascending : List Str := ["keys", "index"]
def g_are_ascending : FS :=
  (gSeq (gFor (iR2 (fC (.int 1)) (f1 dLen (fVar 0))) (bName 1) (gIf (fT (f2 dGe (f2 dIx (fVar 0) (f2 dSub (fVar 1) (fC (.int 1)))) (f2 dIx (fVar 0) (fVar 1)))) (gRet (fM (fC (.bl false)))) gNx))
  (gRet (fM (fC (.bl true)))))
def fn_are_ascending : List D → Option D := fnOf 2 1 g_are_ascending
def N_is_above : List Str := ["key", "low"]
def g_is_above : FS :=
  (gRet (fM (fOr (f2 dIsN (fVar 1) (fC .non)) (f2 dGe (fVar 0) (fVar 1)))))
def fn_is_above : List D → Option D := fnOf 2 2 g_is_above
def N_is_below : List Str := ["key", "high"]
def g_is_below : FS :=
  (gRet (fM (fOr (f2 dIsN (fVar 1) (fC .non)) (f2 dLt (fVar 0) (fVar 1)))))
def fn_is_below : List D → Option D := fnOf 2 2 g_is_below
def N_is_leaf : List Str := ["record", "low", "high", "keys", "values", "key"]
def g_is_leaf : FS :=
  (gSeq (gIf (fOrT (fT (f2 dNe (f1 dLen (fVar 0)) (fC (.int 5)))) (fOrT (fNotT (fT (fCall fn_is_bound [(f2 dIx (fVar 0) (fC (.int 1)))]))) (fNotT (fT (fCall fn_is_bound [(f2 dIx (fVar 0) (fC (.int 2)))]))))) (gRet (fM (fC (.bl false)))) gNx)
  (gSeq (gUn [1, 2, 3, 4] (fM (fSl (fVar 0) (oSome (fC (.int 1))) oNone)))
  (gSeq (gIf (fOrT (fNotT (fT (fCall fn_are_integers [(fVar 3)]))) (fOrT (fNotT (fT (fCall fn_are_integers [(fVar 4)]))) (fT (f2 dNe (f1 dLen (fVar 3)) (f1 dLen (fVar 4)))))) (gRet (fM (fC (.bl false)))) gNx)
  (gSeq (gIf (fOrT (fAndT (fT (f2 dNotN (fVar 1) (fC .non))) (fNotT (fT (fCall fn_is_below [(fVar 1), (fVar 2)])))) (fNotT (fT (fCall fn_are_ascending [(fVar 3)])))) (gRet (fM (fC (.bl false)))) gNx)
  (gRet (fM (f1 dAll (fLc (iT (fVar 3)) fYes (fAnd (fCall fn_is_above [(fVar 5), (fVar 1)]) (fCall fn_is_below [(fVar 5), (fVar 2)])) 5))))))))
def fn_is_leaf : List D → Option D := fnOf 6 1 g_is_leaf
def N_is_inner : List Str := ["record", "low", "high", "keys", "pages", "key"]
def g_is_inner : FS :=
  (gSeq (gIf (fOrT (fT (f2 dNe (f1 dLen (fVar 0)) (fC (.int 6)))) (fOrT (fNotT (fT (fCall fn_is_integer [(f2 dIx (fVar 0) (fC (.int 1)))]))) (fT (f2 dLt (f2 dIx (fVar 0) (fC (.int 1))) (fC (.int 1)))))) (gRet (fM (fC (.bl false)))) gNx)
  (gSeq (gUn [1, 2, 3, 4] (fM (fSl (fVar 0) (oSome (fC (.int 2))) oNone)))
  (gSeq (gIf (fOrT (fNotT (fT (fCall fn_is_bound [(fVar 1)]))) (fOrT (fNotT (fT (fCall fn_is_bound [(fVar 2)]))) (fOrT (fNotT (fT (fCall fn_are_integers [(fVar 3)]))) (fNotT (fT (fCall fn_are_integers [(fVar 4)])))))) (gRet (fM (fC (.bl false)))) gNx)
  (gSeq (gIf (fAndT (fT (f2 dNotN (fVar 1) (fC .non))) (fNotT (fT (fCall fn_is_below [(fVar 1), (fVar 2)])))) (gRet (fM (fC (.bl false)))) gNx)
  (gSeq (gIf (fOrT (fT (f2 dNe (f1 dLen (fVar 4)) (f2 dAdd (f1 dLen (fVar 3)) (fC (.int 1))))) (fNotT (fT (fCall fn_are_ascending [(fVar 3)])))) (gRet (fM (fC (.bl false)))) gNx)
  (gRet (fM (f1 dAll (fLc (iT (fVar 3)) fYes (fAnd (fOr (f2 dIsN (fVar 1) (fC .non)) (f2 dGt (fVar 5) (fVar 1))) (fCall fn_is_below [(fVar 5), (fVar 2)])) 5)))))))))
def fn_is_inner : List D → Option D := fnOf 6 1 g_is_inner
def N_is_record : List Str := ["value"]
def g_is_record : FS :=
  (gSeq (gIf (fOrT (fNotT (fT (f1 (dIsi "tuple") (fVar 0)))) (fT (f2 dLt (f1 dLen (fVar 0)) (fC (.int 2))))) (gRet (fM (fC (.bl false)))) gNx)
  (gSeq (gIf (fT (f2 dEq (f2 dIx (fVar 0) (fC (.int 0))) (fC (.str "leaf")))) (gRet (fM (fCall fn_is_leaf [(fVar 0)]))) gNx)
  (gSeq (gIf (fT (f2 dEq (f2 dIx (fVar 0) (fC (.int 0))) (fC (.str "inner")))) (gRet (fM (fCall fn_is_inner [(fVar 0)]))) gNx)
  (gRet (fM (fAnd (f2 dEq (f2 dIx (fVar 0) (fC (.int 0))) (fC (.str "free"))) (fAnd (f2 dEq (f1 dLen (fVar 0)) (fC (.int 2))) (fCall fn_is_integer [(f2 dIx (fVar 0) (fC (.int 1)))]))))))))
def fn_is_record : List D → Option D := fnOf 1 1 g_is_record
def N_checked : List Str := ["record"]
def g_checked : FS :=
  (gSeq (gIf (fNotT (fT (fCall fn_is_record [(fVar 0)]))) gNo gNx)
  (gRet (fM (fVar 0))))
def fn_checked : List D → Option D := fnOf 1 1 g_checked
def N_leaf : List Str := ["low", "high", "keys", "values"]
def g_leaf : FS :=
  (gRet (fM (fCall fn_checked [(fTup [(fC (.str "leaf")), (fVar 0), (fVar 1), (f1 dTuple (fVar 2)), (f1 dTuple (fVar 3))])])))
def fn_leaf : List D → Option D := fnOf 4 4 g_leaf
def N_inner : List Str := ["level", "low", "high", "keys", "pages"]
def g_inner : FS :=
  (gRet (fM (fCall fn_checked [(fTup [(fC (.str "inner")), (fVar 0), (fVar 1), (fVar 2), (f1 dTuple (fVar 3)), (f1 dTuple (fVar 4))])])))
def fn_inner : List D → Option D := fnOf 5 5 g_inner
def N_level_of : List Str := ["record"]
def g_level_of : FS :=
  (gSeq (gIf (fT (f2 dEq (f2 dIx (fVar 0) (fC (.int 0))) (fC (.str "leaf")))) (gRet (fM (fC (.int 0)))) gNx)
  (gSeq (gIf (fT (f2 dEq (f2 dIx (fVar 0) (fC (.int 0))) (fC (.str "inner")))) (gRet (fM (f2 dIx (fVar 0) (fC (.int 1))))) gNx)
  (gRet (fM (fNeg (fC (.int 1)))))))
def fn_level_of : List D → Option D := fnOf 1 1 g_level_of
def N_bounds_of : List Str := ["record"]
def g_bounds_of : FS :=
  (gSeq (gIf (fT (f2 dEq (f2 dIx (fVar 0) (fC (.int 0))) (fC (.str "leaf")))) (gRet (fM (fTup [(f2 dIx (fVar 0) (fC (.int 1))), (f2 dIx (fVar 0) (fC (.int 2)))]))) gNx)
  (gRet (fM (fTup [(f2 dIx (fVar 0) (fC (.int 2))), (f2 dIx (fVar 0) (fC (.int 3)))]))))
def fn_bounds_of : List D → Option D := fnOf 1 1 g_bounds_of
def N_size_of : List Str := ["record"]
def g_size_of : FS :=
  (gRet (fM (f1 dLen (f2 dIx (fVar 0) (fNeg (fC (.int 1)))))))
def fn_size_of : List D → Option D := fnOf 1 1 g_size_of
def N_value_in : List Str := ["record", "key", "index"]
def g_value_in : FS :=
  (gSeq (gFor (iR1 (f1 dLen (f2 dIx (fVar 0) (fC (.int 3))))) (bName 2) (gIf (fT (f2 dEq (f2 dIx (f2 dIx (fVar 0) (fC (.int 3))) (fVar 2)) (fVar 1))) (gRet (fM (f2 dIx (f2 dIx (fVar 0) (fC (.int 4))) (fVar 2)))) gNx))
  (gRet (fM (fC .non))))
def fn_value_in : List D → Option D := fnOf 3 2 g_value_in
def N_place_of : List Str := ["keys", "key", "one"]
def g_place_of : FS :=
  (gRet (fM (f1 dLen (fLc (iT (fVar 0)) (fT (f2 dLt (fVar 2) (fVar 1))) (fVar 2) 2))))
def fn_place_of : List D → Option D := fnOf 3 2 g_place_of
def N_child_bounds : List Str := ["record", "index", "low", "high", "keys"]
def g_child_bounds : FS :=
  (gSeq (gUn [2, 3, 4] (fM (fTup [(f2 dIx (fVar 0) (fC (.int 2))), (f2 dIx (fVar 0) (fC (.int 3))), (f2 dIx (fVar 0) (fC (.int 4)))])))
  (gSeq (gIf (fT (f2 dGt (fVar 1) (fC (.int 0)))) (gSet 2 (fM (f2 dIx (fVar 4) (f2 dSub (fVar 1) (fC (.int 1)))))) gNx)
  (gSeq (gIf (fT (f2 dLt (fVar 1) (f1 dLen (fVar 4)))) (gSet 3 (fM (f2 dIx (fVar 4) (fVar 1)))) gNx)
  (gRet (fM (fTup [(fVar 2), (fVar 3)]))))))
def fn_child_bounds : List D → Option D := fnOf 5 2 g_child_bounds
def N_with_value : List Str := ["record", "key", "value", "low", "high", "keys", "values", "place", "behind"]
def g_with_value : FS :=
  (gSeq (gUn [3, 4, 5, 6] (fM (fSl (fVar 0) (oSome (fC (.int 1))) oNone)))
  (gSeq (gSet 7 (fM (fCall fn_place_of [(fVar 5), (fVar 1)])))
  (gSeq (gSet 8 (fM (fVar 7)))
  (gSeq (gIf (fAndT (fT (f2 dLt (fVar 7) (f1 dLen (fVar 5)))) (fT (f2 dEq (f2 dIx (fVar 5) (fVar 7)) (fVar 1)))) (gSet 8 (fM (f2 dAdd (fVar 7) (fC (.int 1))))) gNx)
  (gSeq (gSet 5 (fM (f2 dAdd (f2 dAdd (fSl (fVar 5) oNone (oSome (fVar 7))) (fTup [(fVar 1)])) (fSl (fVar 5) (oSome (fVar 8)) oNone))))
  (gSeq (gSet 6 (fM (f2 dAdd (f2 dAdd (fSl (fVar 6) oNone (oSome (fVar 7))) (fTup [(fVar 2)])) (fSl (fVar 6) (oSome (fVar 8)) oNone))))
  (gRet (fM (fCall fn_leaf [(fVar 3), (fVar 4), (fVar 5), (fVar 6)])))))))))
def fn_with_value : List D → Option D := fnOf 9 3 g_with_value
def N_without_key : List Str := ["record", "key", "low", "high", "keys", "values", "place"]
def g_without_key : FS :=
  (gSeq (gUn [2, 3, 4, 5] (fM (fSl (fVar 0) (oSome (fC (.int 1))) oNone)))
  (gSeq (gSet 6 (fM (fCall fn_place_of [(fVar 4), (fVar 1)])))
  (gRet (fM (fCall fn_leaf [(fVar 2), (fVar 3), (f2 dAdd (fSl (fVar 4) oNone (oSome (fVar 6))) (fSl (fVar 4) (oSome (f2 dAdd (fVar 6) (fC (.int 1)))) oNone)), (f2 dAdd (fSl (fVar 5) oNone (oSome (fVar 6))) (fSl (fVar 5) (oSome (f2 dAdd (fVar 6) (fC (.int 1)))) oNone))])))))
def fn_without_key : List D → Option D := fnOf 7 2 g_without_key
def N_with_child : List Str := ["record", "index", "separator", "page", "level", "low", "high", "keys", "pages"]
def g_with_child : FS :=
  (gSeq (gUn [4, 5, 6, 7, 8] (fM (fSl (fVar 0) (oSome (fC (.int 1))) oNone)))
  (gSeq (gSet 7 (fM (f2 dAdd (f2 dAdd (fSl (fVar 7) oNone (oSome (fVar 1))) (fTup [(fVar 2)])) (fSl (fVar 7) (oSome (fVar 1)) oNone))))
  (gSeq (gSet 8 (fM (f2 dAdd (f2 dAdd (fSl (fVar 8) oNone (oSome (f2 dAdd (fVar 1) (fC (.int 1))))) (fTup [(fVar 3)])) (fSl (fVar 8) (oSome (f2 dAdd (fVar 1) (fC (.int 1)))) oNone))))
  (gRet (fM (fCall fn_inner [(fVar 4), (fVar 5), (fVar 6), (fVar 7), (fVar 8)]))))))
def fn_with_child : List D → Option D := fnOf 9 4 g_with_child
def N_without_child : List Str := ["record", "index", "level", "low", "high", "keys", "pages"]
def g_without_child : FS :=
  (gSeq (gUn [2, 3, 4, 5, 6] (fM (fSl (fVar 0) (oSome (fC (.int 1))) oNone)))
  (gSeq (gSet 5 (fM (f2 dAdd (fSl (fVar 5) oNone (oSome (f2 dSub (fVar 1) (fC (.int 1))))) (fSl (fVar 5) (oSome (fVar 1)) oNone))))
  (gRet (fM (fCall fn_inner [(fVar 2), (fVar 3), (fVar 4), (fVar 5), (f2 dAdd (fSl (fVar 6) oNone (oSome (fVar 1))) (fSl (fVar 6) (oSome (f2 dAdd (fVar 1) (fC (.int 1)))) oNone))])))))
def fn_without_child : List D → Option D := fnOf 7 2 g_without_child
def N_with_separator : List Str := ["record", "index", "separator", "level", "low", "high", "keys", "pages"]
def g_with_separator : FS :=
  (gSeq (gUn [3, 4, 5, 6, 7] (fM (fSl (fVar 0) (oSome (fC (.int 1))) oNone)))
  (gRet (fM (fCall fn_inner [(fVar 3), (fVar 4), (fVar 5), (f2 dAdd (f2 dAdd (fSl (fVar 6) oNone (oSome (f2 dSub (fVar 1) (fC (.int 1))))) (fTup [(fVar 2)])) (fSl (fVar 6) (oSome (fVar 1)) oNone)), (fVar 7)]))))
def fn_with_separator : List D → Option D := fnOf 8 3 g_with_separator
def N_cut : List Str := ["record", "half", "low", "high", "keys", "values", "first", "level", "pages", "separator"]
def g_cut : FS :=
  (gSeq (gSet 1 (fM (f2 dDiv (f2 dAdd (fCall fn_size_of [(fVar 0)]) (fC (.int 1))) (fC (.int 2)))))
  (gSeq (gIf (fT (f2 dEq (f2 dIx (fVar 0) (fC (.int 0))) (fC (.str "leaf")))) (gSeq (gUn [2, 3, 4, 5] (fM (fSl (fVar 0) (oSome (fC (.int 1))) oNone)))
  (gSeq (gSet 6 (fM (fCall fn_leaf [(fVar 2), (f2 dIx (fVar 4) (fVar 1)), (fSl (fVar 4) oNone (oSome (fVar 1))), (fSl (fVar 5) oNone (oSome (fVar 1)))])))
  (gRet (fM (fTup [(fVar 6), (f2 dIx (fVar 4) (fVar 1)), (fCall fn_leaf [(f2 dIx (fVar 4) (fVar 1)), (fVar 3), (fSl (fVar 4) (oSome (fVar 1)) oNone), (fSl (fVar 5) (oSome (fVar 1)) oNone)])]))))) gNx)
  (gSeq (gUn [7, 2, 3, 4, 8] (fM (fSl (fVar 0) (oSome (fC (.int 1))) oNone)))
  (gSeq (gSet 9 (fM (f2 dIx (fVar 4) (f2 dSub (fVar 1) (fC (.int 1))))))
  (gSeq (gSet 6 (fM (fCall fn_inner [(fVar 7), (fVar 2), (fVar 9), (fSl (fVar 4) oNone (oSome (f2 dSub (fVar 1) (fC (.int 1))))), (fSl (fVar 8) oNone (oSome (fVar 1)))])))
  (gRet (fM (fTup [(fVar 6), (fVar 9), (fCall fn_inner [(fVar 7), (fVar 9), (fVar 3), (fSl (fVar 4) (oSome (fVar 1)) oNone), (fSl (fVar 8) (oSome (fVar 1)) oNone)])]))))))))
def fn_cut : List D → Option D := fnOf 10 1 g_cut
def N_joined : List Str := ["first", "separator", "second", "low", "high", "keys"]
def g_joined : FS :=
  (gSeq (gSet 3 (fM (f2 dIx (fCall fn_bounds_of [(fVar 0)]) (fC (.int 0)))))
  (gSeq (gSet 4 (fM (f2 dIx (fCall fn_bounds_of [(fVar 2)]) (fC (.int 1)))))
  (gSeq (gIf (fT (f2 dEq (f2 dIx (fVar 0) (fC (.int 0))) (fC (.str "leaf")))) (gRet (fM (fCall fn_leaf [(fVar 3), (fVar 4), (f2 dAdd (f2 dIx (fVar 0) (fC (.int 3))) (f2 dIx (fVar 2) (fC (.int 3)))), (f2 dAdd (f2 dIx (fVar 0) (fC (.int 4))) (f2 dIx (fVar 2) (fC (.int 4))))]))) gNx)
  (gSeq (gSet 5 (fM (f2 dAdd (f2 dAdd (f2 dIx (fVar 0) (fC (.int 4))) (fTup [(fVar 1)])) (f2 dIx (fVar 2) (fC (.int 4))))))
  (gRet (fM (fCall fn_inner [(f2 dIx (fVar 0) (fC (.int 1))), (fVar 3), (fVar 4), (fVar 5), (f2 dAdd (f2 dIx (fVar 0) (fC (.int 5))) (f2 dIx (fVar 2) (fC (.int 5))))])))))))
def fn_joined : List D → Option D := fnOf 6 3 g_joined
def N_leaf_change : List Str := ["call", "record", "kind", "key", "old"]
def g_leaf_change : FS :=
  (gSeq (gUn [2, 3] (fM (fTup [(f2 dIx (fVar 0) (fC (.int 0))), (f2 dIx (fVar 0) (fC (.int 1)))])))
  (gSeq (gSet 4 (fM (fCall fn_value_in [(fVar 1), (fVar 3)])))
  (gSeq (gIf (fAndT (fT (f2 dEq (fVar 2) (fC (.str "put")))) (fT (f2 dNe (fVar 4) (f2 dIx (fVar 0) (fC (.int 2)))))) (gRet (fM (fTup [(fVar 4), (fCall fn_with_value [(fVar 1), (fVar 3), (f2 dIx (fVar 0) (fC (.int 2)))])]))) gNx)
  (gSeq (gIf (fT (f2 dEq (fVar 2) (fC (.str "add")))) (gSeq (gIf (fT (f2 dNotN (fVar 4) (fC .non))) (gRet (fM (fTup [(fC (.bl false)), (fC .non)]))) gNx)
  (gRet (fM (fTup [(fC (.bl true)), (fCall fn_with_value [(fVar 1), (fVar 3), (f2 dIx (fVar 0) (fC (.int 2)))])])))) gNx)
  (gSeq (gIf (fT (f2 dEq (fVar 2) (fC (.str "change")))) (gSeq (gIf (fOrT (fT (f2 dIsN (fVar 4) (fC .non))) (fT (f2 dNe (fVar 4) (f2 dIx (fVar 0) (fC (.int 2)))))) (gRet (fM (fTup [(fC (.bl false)), (fC .non)]))) gNx)
  (gSeq (gIf (fT (f2 dEq (f2 dIx (fVar 0) (fC (.int 3))) (fVar 4))) (gRet (fM (fTup [(fC (.bl true)), (fC .non)]))) gNx)
  (gRet (fM (fTup [(fC (.bl true)), (fCall fn_with_value [(fVar 1), (fVar 3), (f2 dIx (fVar 0) (fC (.int 3)))])]))))) gNx)
  (gSeq (gIf (fAndT (fT (f2 dEq (fVar 2) (fC (.str "take")))) (fT (f2 dNotN (fVar 4) (fC .non)))) (gRet (fM (fTup [(fVar 4), (fCall fn_without_key [(fVar 1), (fVar 3)])]))) gNx)
  (gRet (fM (fTup [(fVar 4), (fC .non)])))))))))
def fn_leaf_change : List D → Option D := fnOf 5 2 g_leaf_change
def N_most_of : List Str := ["record"]
def g_most_of : FS :=
  (gSeq (gIf (fT (f2 dEq (fCall fn_level_of [(fVar 0)]) (fC (.int 0)))) (gRet (fM (fC (.int 4)))) gNx)
  (gRet (fM (fC (.int 5)))))
def fn_most_of : List D → Option D := fnOf 1 1 g_most_of
def N_Draft_give : List Str := ["self", "step", "record"]
def g_Draft_give : FS :=
  (gSeq (gPutR 0 (f2 dIx (fVar 1) (fC (.int 0))) (fVar 2))
  (gPutA 0 (f2 dIx (fVar 1) (fC (.int 0))) (f2 dIx (fVar 1) (fC (.int 1)))))
def fn_Draft_give : FMd := fnOfM 3 2 g_Draft_give
def N_Draft_add_page : List Str := ["self", "record"]
def g_Draft_add_page : FS :=
  (gSeq (gFresh 0)
  (gSeq (gPutR 0 (fFld drFr 0) (fVar 1))
  (gRet (fM (fFld drFr 0)))))
def fn_Draft_add_page : FMd := fnOfM 2 1 g_Draft_add_page
def N_Draft_entries : List Str := ["self", "pages", "page", "index"]
def g_Draft_entries : FS :=
  (gSeq (gSet 1 (fM (f1 dSorted (fLcK (fdRecs 0) none (fT (f2 dGe (fVar 2) (fC (.int 0)))) (fVar 2) 2))))
  (gSeq (gSet 1 (fM (f2 dAdd (fVar 1) (fLc (iR1 (fNeg (fFld drFr 0))) fYes (f2 dSub (fNeg (fC (.int 1))) (fVar 3)) 3))))
  (gRet (fM (fLc (iL (fVar 1)) fYes (fTup [(fVar 2), (fGet1 (fFld drAd 0) (fVar 2)), (f2 dIx (fFld drRc 0) (fVar 2))]) 2)))))
def fn_Draft_entries : FMd := fnOfM 4 0 g_Draft_entries
def N_Draft_place_in_parent : List Str := ["self", "index", "parent", "page", "_", "record", "place"]
def g_Draft_place_in_parent : FS :=
  (gSeq (gSet 2 (fM (f2 dIx (f2 dIx (fFld Dr.path 0) (f2 dSub (fVar 1) (fC (.int 1)))) (fC (.int 2)))))
  (gSeq (gUn [3, 4, 5, 4] (fM (f2 dIx (fFld Dr.path 0) (fVar 1))))
  (gSeq (gFor (iR1 (fCall fn_size_of [(fVar 2)])) (bName 6) (gIf (fAndT (fT (f2 dEq (f2 dIx (f2 dIx (fVar 2) (fC (.int 5))) (fVar 6)) (fVar 3))) (fT (f2 dEq (fCall fn_child_bounds [(fVar 2), (fVar 6)]) (fCall fn_bounds_of [(fVar 5)])))) (gRet (fM (fVar 6))) gNx))
  (gRet (fM (fC .non))))))
def fn_Draft_place_in_parent : FMd := fnOfM 7 1 g_Draft_place_in_parent
def N_Draft_divide : List Str := ["self", "index", "record", "first", "separator", "second", "pages", "level", "place", "page"]
def g_Draft_divide : FS :=
  (gSeq (gUn [3, 4, 5] (fM (fCall fn_cut [(fVar 2)])))
  (gSeq (gIf (fT (f2 dEq (fVar 1) (fC (.int 0)))) (gSeq (gSet 6 (fTupM [(fMeth fn_Draft_add_page 0 [(fVar 3)]), (fMeth fn_Draft_add_page 0 [(fVar 5)])]))
  (gSeq (gSet 7 (fM (f2 dAdd (fCall fn_level_of [(fVar 2)]) (fC (.int 1)))))
  (gSeq (gDrop (fMeth fn_Draft_give 0 [(f2 dIx (fFld Dr.path 0) (fC (.int 0))), (fCall fn_inner [(fVar 7), (fC .non), (fC .non), (fTup [(fVar 4)]), (fVar 6)])]))
  (gRet (fM (fTup [(fC (.str "done")), (fC .non)])))))) gNx)
  (gSeq (gSet 8 (fMeth fn_Draft_place_in_parent 0 [(fVar 1)]))
  (gSeq (gIf (fT (f2 dIsN (fVar 8) (fC .non))) (gRet (fM (fTup [(fC (.str "stale")), (fC .non)]))) gNx)
  (gSeq (gDrop (fMeth fn_Draft_give 0 [(f2 dIx (fFld Dr.path 0) (fVar 1)), (fVar 3)]))
  (gSeq (gSet 9 (fMeth fn_Draft_add_page 0 [(fVar 5)]))
  (gRet (fM (fTup [(fC (.str "up")), (fCall fn_with_child [(f2 dIx (f2 dIx (fFld Dr.path 0) (f2 dSub (fVar 1) (fC (.int 1)))) (fC (.int 2))), (fVar 8), (fVar 4), (fVar 9)])])))))))))
def fn_Draft_divide : FMd := fnOfM 10 2 g_Draft_divide
def N_Draft_unite_pair : List Str := ["self", "index", "place", "left", "right", "parent", "both", "first", "separator", "second"]
def g_Draft_unite_pair : FS :=
  (gSeq (gSet 5 (fM (f2 dIx (f2 dIx (fFld Dr.path 0) (f2 dSub (fVar 1) (fC (.int 1)))) (fC (.int 2)))))
  (gSeq (gSet 6 (fM (fCall fn_joined [(f2 dIx (fVar 3) (fC (.int 1))), (f2 dIx (fCall fn_bounds_of [(f2 dIx (fVar 4) (fC (.int 1)))]) (fC (.int 0))), (f2 dIx (fVar 4) (fC (.int 1)))])))
  (gSeq (gIf (fT (f2 dGt (fCall fn_size_of [(fVar 6)]) (fCall fn_most_of [(fVar 6)]))) (gSeq (gUn [7, 8, 9] (fM (fCall fn_cut [(fVar 6)])))
  (gSeq (gDrop (fMeth fn_Draft_give 0 [(f2 dIx (fVar 3) (fC (.int 0))), (fVar 7)]))
  (gSeq (gDrop (fMeth fn_Draft_give 0 [(f2 dIx (fVar 4) (fC (.int 0))), (fVar 9)]))
  (gRet (fM (fTup [(fC (.str "up")), (fCall fn_with_separator [(fVar 5), (fVar 2), (fVar 8)])])))))) gNx)
  (gSeq (gSet 5 (fM (fCall fn_without_child [(fVar 5), (fVar 2)])))
  (gSeq (gDrop (fMeth fn_Draft_give 0 [(f2 dIx (fVar 4) (fC (.int 0))), (fTup [(fC (.str "free")), (f2 dIx (f2 dIx (fVar 4) (fC (.int 0))) (fC (.int 0)))])]))
  (gSeq (gIf (fAndT (fT (f2 dEq (fVar 1) (fC (.int 1)))) (fT (f2 dEq (fCall fn_size_of [(fVar 5)]) (fC (.int 1))))) (gSeq (gDrop (fMeth fn_Draft_give 0 [(f2 dIx (fVar 3) (fC (.int 0))), (fTup [(fC (.str "free")), (f2 dIx (f2 dIx (fVar 3) (fC (.int 0))) (fC (.int 0)))])]))
  (gSeq (gDrop (fMeth fn_Draft_give 0 [(f2 dIx (fFld Dr.path 0) (fC (.int 0))), (fVar 6)]))
  (gRet (fM (fTup [(fC (.str "done")), (fC .non)]))))) gNx)
  (gSeq (gDrop (fMeth fn_Draft_give 0 [(f2 dIx (fVar 3) (fC (.int 0))), (fVar 6)]))
  (gRet (fM (fTup [(fC (.str "up")), (fVar 5)]))))))))))
def fn_Draft_unite_pair : FMd := fnOfM 10 4 g_Draft_unite_pair
def N_Draft_unite : List Str := ["self", "index", "record", "place", "parent", "other", "page", "sibling", "own"]
def g_Draft_unite : FS :=
  (gSeq (gSet 3 (fMeth fn_Draft_place_in_parent 0 [(fVar 1)]))
  (gSeq (gIf (fT (f2 dIsN (fVar 3) (fC .non))) (gRet (fM (fTup [(fC (.str "stale")), (fC .non)]))) gNx)
  (gSeq (gSet 4 (fM (f2 dIx (f2 dIx (fFld Dr.path 0) (f2 dSub (fVar 1) (fC (.int 1)))) (fC (.int 2)))))
  (gSeq (gSet 5 (fM (f2 dSub (fVar 3) (fC (.int 1)))))
  (gSeq (gIf (fT (f2 dEq (fVar 3) (fC (.int 0)))) (gSet 5 (fM (fC (.int 1)))) gNx)
  (gSeq (gSet 6 (fM (f2 dIx (f2 dIx (fVar 4) (fC (.int 5))) (fVar 5))))
  (gSeq (gIf (fT (f2 dNin (fVar 6) (fFld Dr.sibs 0))) (gRet (fM (fTup [(fC (.str "read")), (fVar 6)]))) gNx)
  (gSeq (gSet 7 (fM (f2 dIx (fFld Dr.sibs 0) (fVar 6))))
  (gSeq (gIf (fT (f2 dNe (fCall fn_level_of [(f2 dIx (fVar 7) (fC (.int 2)))]) (fCall fn_level_of [(fVar 2)]))) (gRet (fM (fTup [(fC (.str "stale")), (fC .non)]))) gNx)
  (gSeq (gIf (fT (f2 dNe (fCall fn_bounds_of [(f2 dIx (fVar 7) (fC (.int 2)))]) (fCall fn_child_bounds [(fVar 4), (fVar 5)]))) (gRet (fM (fTup [(fC (.str "stale")), (fC .non)]))) gNx)
  (gSeq (gSet 8 (fM (f2 dIx (fFld Dr.path 0) (fVar 1))))
  (gSeq (gIf (fT (f2 dLt (fVar 5) (fVar 3))) (gRet (fMeth fn_Draft_unite_pair 0 [(fVar 1), (fVar 3), (fTup [(fVar 7), (f2 dIx (fVar 7) (fC (.int 2)))]), (fTup [(fVar 8), (fVar 2)])])) gNx)
  (gRet (fMeth fn_Draft_unite_pair 0 [(fVar 1), (fVar 5), (fTup [(fVar 8), (fVar 2)]), (fTup [(fVar 7), (f2 dIx (fVar 7) (fC (.int 2)))])]))))))))))))))
def fn_Draft_unite : FMd := fnOfM 9 2 g_Draft_unite
def N_Draft_settle : List Str := ["self", "index", "record"]
def g_Draft_settle : FS :=
  (gSeq (gIf (fT (f2 dGt (fCall fn_size_of [(fVar 2)]) (fCall fn_most_of [(fVar 2)]))) (gRet (fMeth fn_Draft_divide 0 [(fVar 1), (fVar 2)])) gNx)
  (gSeq (gIf (fAndT (fT (f2 dGt (fVar 1) (fC (.int 0)))) (fT (f2 dLt (fCall fn_size_of [(fVar 2)]) (fC (.int 2))))) (gRet (fMeth fn_Draft_unite 0 [(fVar 1), (fVar 2)])) gNx)
  (gSeq (gDrop (fMeth fn_Draft_give 0 [(f2 dIx (fFld Dr.path 0) (fVar 1)), (fVar 2)]))
  (gRet (fM (fTup [(fC (.str "done")), (fC .non)]))))))
def fn_Draft_settle : FMd := fnOfM 3 2 g_Draft_settle
def N_plan : List Str := ["call", "path", "siblings", "answer", "record", "draft", "index", "kind", "value"]
def g_plan : FS :=
  (gSeq (gUn [3, 4] (fM (fCall fn_leaf_change [(fVar 0), (f2 dIx (f2 dIx (fVar 1) (fNeg (fC (.int 1)))) (fC (.int 2)))])))
  (gSeq (gIf (fT (f2 dIsN (fVar 4) (fC .non))) (gRet (fM (fTup [(fC (.str "answer")), (fVar 3)]))) gNx)
  (gSeq (gMake 5 [(fVar 1), (fVar 2)])
  (gSeq (gFor (iR3 (f2 dSub (f1 dLen (fVar 1)) (fC (.int 1))) (fNeg (fC (.int 1)))) (bName 6) (gSeq (gUn [7, 8] (fMeth fn_Draft_settle 5 [(fVar 6), (fVar 4)]))
  (gSeq (gIf (fT (f2 dEq (fVar 7) (fC (.str "read")))) (gRet (fM (fTup [(fC (.str "read")), (fVar 8)]))) gNx)
  (gSeq (gIf (fT (f2 dEq (fVar 7) (fC (.str "stale")))) (gRet (fM (fTup [(fC (.str "stale"))]))) gNx)
  (gSeq (gIf (fT (f2 dEq (fVar 7) (fC (.str "done")))) gBk gNx)
  (gSet 4 (fM (fVar 8))))))))
  (gRet (fTupM [(fM (fC (.str "change"))), (fM (fVar 3)), (fMeth fn_Draft_entries 5 [])]))))))
def fn_plan : List D → Option D := fnOf 9 3 g_plan
def N_new_pages : List Str := ["entries", "entry"]
def g_new_pages : FS :=
  (gRet (fM (f1 dLen (fLc (iL (fVar 0)) (fT (f2 dLt (f2 dIx (fVar 1) (fC (.int 0))) (fC (.int 0)))) (fVar 1) 1))))
def fn_new_pages : List D → Option D := fnOf 2 1 g_new_pages
def N_real_page : List Str := ["page", "pages"]
def g_real_page : FS :=
  (gSeq (gIf (fT (f2 dLt (fVar 0) (fC (.int 0)))) (gRet (fM (f2 dIx (fVar 1) (f2 dSub (fNeg (fC (.int 1))) (fVar 0))))) gNx)
  (gRet (fM (fVar 0))))
def fn_real_page : List D → Option D := fnOf 2 2 g_real_page
def N_placed : List Str := ["entries", "pages", "out", "page", "address", "record", "inside", "below"]
def g_placed : FS :=
  (gSeq (gOwnL 2 [])
  (gSeq (gFor (iL (fVar 0)) (bTup [3, 4, 5]) (gSeq (gIf (fT (f2 dEq (f2 dIx (fVar 5) (fC (.int 0))) (fC (.str "inner")))) (gSeq (gSet 6 (fM (f1 dTuple (fLc (iT (f2 dIx (fVar 5) (fC (.int 5)))) fYes (fCall fn_real_page [(fVar 7), (fVar 1)]) 7))))
  (gSet 5 (fM (f2 dAdd (fSl (fVar 5) oNone (oSome (fC (.int 5)))) (fTup [(fVar 6)]))))) gNx)
  (gApp 2 (fTup [(fCall fn_real_page [(fVar 3), (fVar 1)]), (fVar 4), (fVar 5)]))))
  (gRet (fM (fVar 2)))))
def fn_placed : List D → Option D := fnOf 8 2 g_placed
def N_law_cell : List Str := ["_law_script", "_law_k"]
def g_law_cell : FS :=
  (gSeq (gIf (fT (f2 dLt (fVar 1) (f1 dLen (fVar 0)))) (gRet (fM (f1 dInt (f2 dIx (fVar 0) (fVar 1))))) gNx)
  (gRet (fM (fC (.int 0)))))
def fn_law_cell : List D → Option D := fnOf 2 2 g_law_cell
def N_law_digits : List Str := ["_law_cell_here", "_law_bases", "_law_digits_here", "_law_rest", "_law_base", "_law_mixed"]
def g_law_digits : FS :=
  (gSeq (gOwnL 2 [])
  (gSeq (gSet 3 (fM (f1 dInt (fVar 0))))
  (gSeq (gFor (iL (fVar 1)) (bName 4) (gIf (fT (f2 dGe (fVar 0) (f2 dPow (fC (.int 10)) (fC (.int 18))))) (gSeq (gApp 2 (f2 dMod (f1 dInt (fVar 3)) (fVar 4)))
  (gSet 3 (fM (f2 dDiv (fVar 3) (fVar 4))))) (gSeq (gSet 3 (fM (f2 dMod (f2 dAdd (f2 dAdd (f2 dMul (f1 dInt (fVar 3)) (fC (.int 48271))) (f2 dMul (fC (.int 1009)) (f1 dLen (fVarC 2)))) (fC (.int 12345))) (fC (.int 2147483647)))))
  (gSeq (gSet 5 (fM (f2 dMod (f2 dMul (f1 dInt (fVar 3)) (f1 dInt (fVar 3))) (fC (.int 2147483629)))))
  (gApp 2 (f2 dMod (f2 dDiv (f1 dInt (fVar 5)) (fC (.int 13))) (fVar 4)))))))
  (gRet (fM (fVar 2))))))
def fn_law_digits : List D → Option D := fnOf 6 2 g_law_digits
def N_law_many : List Str := ["_law_script", "_law_few", "_law_many_here"]
def g_law_many : FS :=
  (gSeq (gIf (fAndT (fT (f2 dGt (f1 dLen (fVar 0)) (fC (.int 0)))) (fT (f2 dEq (f2 dMod (f2 dDiv (f1 dInt (f2 dIx (fVar 0) (fC (.int 0)))) (fC (.int 1009))) (fC (.int 5))) (fC (.int 1))))) (gRet (fM (fVar 2))) gNx)
  (gRet (fM (fVar 1))))
def fn_law_many : List D → Option D := fnOf 3 3 g_law_many
def N_law_call : List Str := ["_law_cell_here", "_law_width", "_law_table", "_law_digits_here", "_law_key", "_law_kind", "_law_keys", "_law_old"]
def g_law_call : FS :=
  (gSeq (gSet 3 (fM (fCall fn_law_digits [(fVar 0), (fLst [(fC (.int 7)), (fVar 1), (fC (.int 9)), (fC (.int 9)), (fC (.int 4)), (fC (.int 3))])])))
  (gSeq (gSet 4 (fM (f2 dSub (f2 dIx (fVar 3) (fC (.int 1))) (f2 dDiv (fVar 1) (fC (.int 2))))))
  (gSeq (gSet 5 (fM (f2 dIx (fLst [(fC (.str "put")), (fC (.str "put")), (fC (.str "add")), (fC (.str "change")), (fC (.str "take")), (fC (.str "take")), (fC (.str "look"))]) (f2 dIx (fVar 3) (fC (.int 0))))))
  (gSeq (gSet 6 (fM (f1 dSorted (fVar 2))))
  (gSeq (gIf (fAndT (fT (f2 dGt (f2 dIx (fVar 3) (fC (.int 5))) (fC (.int 0)))) (fAndT (fT (f2 dIn (fVar 5) (fTup [(fC (.str "change")), (fC (.str "take")), (fC (.str "look"))]))) (fT (f2 dNe (fVar 6) (fLst []))))) (gSet 4 (fM (f2 dIx (fVar 6) (f2 dMod (f2 dIx (fVar 3) (fC (.int 1))) (f1 dLen (fVar 6)))))) gNx)
  (gSeq (gIf (fOrT (fT (f2 dEq (fVar 5) (fC (.str "put")))) (fT (f2 dEq (fVar 5) (fC (.str "add"))))) (gRet (fM (fTup [(fVar 5), (fVar 4), (f2 dIx (fVar 3) (fC (.int 2)))]))) gNx)
  (gSeq (gIf (fT (f2 dEq (fVar 5) (fC (.str "change")))) (gSeq (gSet 7 (fM (f2 dIx (fVar 3) (fC (.int 2)))))
  (gSeq (gIf (fT (f2 dGt (f2 dIx (fVar 3) (fC (.int 4))) (fC (.int 0)))) (gSet 7 (fM (fGet2 (fVar 2) (fVar 4) (f2 dIx (fVar 3) (fC (.int 2)))))) gNx)
  (gRet (fM (fTup [(fVar 5), (fVar 4), (fVar 7), (f2 dIx (fVar 3) (fC (.int 3)))]))))) gNx)
  (gRet (fM (fTup [(fVar 5), (fVar 4)]))))))))))
def fn_law_call : List D → Option D := fnOf 8 3 g_law_call
def N_law_due : List Str := ["_law_table", "_law_call_here", "_law_after", "_law_old"]
def g_law_due : FS :=
  (gSeq (gOwnC 2 (fVar 0))
  (gSeq (gSet 3 (fM (fGet2 (fVar 0) (f2 dIx (fVar 1) (fC (.int 1))) (fC .non))))
  (gSeq (gIf (fT (f2 dEq (f2 dIx (fVar 1) (fC (.int 0))) (fC (.str "put")))) (gSeq (gPut 2 (f2 dIx (fVar 1) (fC (.int 1))) (f2 dIx (fVar 1) (fC (.int 2))))
  (gRet (fM (fTup [(fVar 3), (fVar 2)])))) gNx)
  (gSeq (gIf (fT (f2 dEq (f2 dIx (fVar 1) (fC (.int 0))) (fC (.str "add")))) (gSeq (gIf (fT (f2 dIsN (fVar 3) (fC .non))) (gPut 2 (f2 dIx (fVar 1) (fC (.int 1))) (f2 dIx (fVar 1) (fC (.int 2)))) gNx)
  (gRet (fM (fTup [(f2 dIsN (fVar 3) (fC .non)), (fVar 2)])))) gNx)
  (gSeq (gIf (fT (f2 dEq (f2 dIx (fVar 1) (fC (.int 0))) (fC (.str "change")))) (gSeq (gIf (fAndT (fT (f2 dNotN (fVar 3) (fC .non))) (fT (f2 dEq (fVar 3) (f2 dIx (fVar 1) (fC (.int 2)))))) (gSeq (gPut 2 (f2 dIx (fVar 1) (fC (.int 1))) (f2 dIx (fVar 1) (fC (.int 3))))
  (gRet (fM (fTup [(fC (.bl true)), (fVar 2)])))) gNx)
  (gRet (fM (fTup [(fC (.bl false)), (fVar 2)])))) gNx)
  (gSeq (gIf (fAndT (fT (f2 dEq (f2 dIx (fVar 1) (fC (.int 0))) (fC (.str "take")))) (fT (f2 dNotN (fVar 3) (fC .non)))) (gPop 2 (f2 dIx (fVar 1) (fC (.int 1)))) gNx)
  (gRet (fM (fTup [(fVar 3), (fVar 2)])))))))))
def fn_law_due : List D → Option D := fnOf 4 2 g_law_due
def N_law_walk : List Str := ["_law_pages", "_law_key", "_law_path", "_law_k", "_law_record", "_law_below_here", "_law_one"]
def g_law_walk : FS :=
  (gSeq (gOwnL 2 [(fTup [(fC (.int 0)), (f2 dIx (f2 dIx (fVar 0) (fC (.int 0))) (fC (.int 0))), (f2 dIx (f2 dIx (fVar 0) (fC (.int 0))) (fC (.int 1))), (fC (.int 1))])])
  (gSeq (gFor (iR1 (fC (.int 20))) (bName 3) (gSeq (gSet 4 (fM (f2 dIx (f2 dIx (fVarC 2) (fNeg (fC (.int 1)))) (fC (.int 2)))))
  (gIf (fT (f2 dEq (f2 dIx (fVar 4) (fC (.int 0))) (fC (.str "inner")))) (gSeq (gSet 5 (fM (f2 dIx (f2 dIx (fVar 4) (fC (.int 5))) (f1 dLen (fLc (iT (f2 dIx (fVar 4) (fC (.int 4)))) (fT (f2 dLe (fVar 6) (fVar 1))) (fVar 6) 6)))))
  (gApp 2 (fTup [(fVar 5), (f2 dIx (f2 dIx (fVar 0) (fVar 5)) (fC (.int 0))), (f2 dIx (f2 dIx (fVar 0) (fVar 5)) (fC (.int 1))), (f2 dAdd (fVar 3) (fC (.int 2)))]))) gNx)))
  (gRet (fM (fVar 2)))))
def fn_law_walk : List D → Option D := fnOf 7 2 g_law_walk
def N_law_planned : List Str := ["_law_pages", "_law_call_here", "_law_path", "_law_siblings", "_law_k", "_law_told", "_law_page"]
def g_law_planned : FS :=
  (gSeq (gSet 2 (fM (fCall fn_law_walk [(fVar 0), (f2 dIx (fVar 1) (fC (.int 1)))])))
  (gSeq (gOwnD 3)
  (gSeq (gFor (iR1 (fC (.int 10))) (bName 4) (gSeq (gSet 5 (fM (fCall fn_plan [(fVar 1), (f1 dList (fVar 2)), (f1 dDict (fVarC 3))])))
  (gSeq (gIf (fT (f2 dNe (f2 dIx (fVar 5) (fC (.int 0))) (fC (.str "read")))) (gRet (fM (fVar 5))) gNx)
  (gSeq (gSet 6 (fM (f2 dIx (fVar 5) (fC (.int 1)))))
  (gPut 3 (fVar 6) (fTup [(fVar 6), (f2 dIx (f2 dIx (fVar 0) (fVar 6)) (fC (.int 0))), (f2 dIx (f2 dIx (fVar 0) (fVar 6)) (fC (.int 1))), (f2 dAdd (fC (.int 40)) (fVar 4))]))))))
  (gRet (fM (fVar 5))))))
def fn_law_planned : List D → Option D := fnOf 7 2 g_law_planned
def N_law_free : List Str := ["_law_pages", "_law_many_here", "_law_found", "_law_page"]
def g_law_free : FS :=
  (gSeq (gOwnL 2 [])
  (gSeq (gFor (iR2 (fC (.int 1)) (fC (.int 200))) (bName 3) (gIf (fAndT (fT (f2 dLt (f1 dLen (fVarC 2)) (fVar 1))) (fOrT (fT (f2 dNin (fVar 3) (fVar 0))) (fT (f2 dEq (f2 dIx (f2 dIx (f2 dIx (fVar 0) (fVar 3)) (fC (.int 1))) (fC (.int 0))) (fC (.str "free")))))) (gApp 2 (fVar 3)) gNx))
  (gRet (fM (fVar 2)))))
def fn_law_free : List D → Option D := fnOf 4 2 g_law_free
def N_law_applied : List Str := ["_law_pages", "_law_entries", "_law_page", "_law_address", "_law_record", "_law_after", "_law_most"]
def g_law_applied : FS :=
  (gSeq (gFor (iL (fVar 1)) (bTup [2, 3, 4]) (gIf (fAndT (fT (f2 dGe (fVar 2) (fC (.int 0)))) (fOrT (fT (f2 dNin (fVar 2) (fVar 0))) (fT (f2 dNe (f2 dIx (f2 dIx (fVar 0) (fVar 2)) (fC (.int 0))) (fVar 3))))) (gRet (fM (fC .non))) gNx))
  (gSeq (gOwnC 5 (fVar 0))
  (gSeq (gSet 6 (fM (f1 dMax (fLcK (fdVar 5) (some 5) fYes (f2 dIx (f2 dIx (fVarC 5) (fVar 2)) (fC (.int 0))) 2))))
  (gSeq (gFor (iL (fCall fn_placed [(fVar 1), (fCall fn_law_free [(fVar 0), (fCall fn_new_pages [(fVar 1)])])])) (bTup [2, 3, 4]) (gSeq (gSet 6 (fM (f2 dAdd (fVar 6) (fC (.int 1)))))
  (gPut 5 (fVar 2) (fTup [(fVar 6), (fVar 4)]))))
  (gRet (fM (fVar 5)))))))
def fn_law_applied : List D → Option D := fnOf 7 2 g_law_applied
def N_law_ascending : List Str := ["_law_keys", "_law_low", "_law_high", "_law_k"]
def g_law_ascending : FS :=
  (gSeq (gFor (iR1 (f1 dLen (fVar 0))) (bName 3) (gSeq (gIf (fAndT (fT (f2 dGt (fVar 3) (fC (.int 0)))) (fT (f2 dGe (f2 dIx (fVar 0) (f2 dSub (fVar 3) (fC (.int 1)))) (f2 dIx (fVar 0) (fVar 3))))) (gRet (fM (fC (.bl false)))) gNx)
  (gIf (fOrT (fAndT (fT (f2 dNotN (fVar 1) (fC .non))) (fT (f2 dLt (f2 dIx (fVar 0) (fVar 3)) (fVar 1)))) (fAndT (fT (f2 dNotN (fVar 2) (fC .non))) (fT (f2 dGe (f2 dIx (fVar 0) (fVar 3)) (fVar 2))))) (gRet (fM (fC (.bl false)))) gNx)))
  (gRet (fM (fC (.bl true)))))
def fn_law_ascending : List D → Option D := fnOf 4 3 g_law_ascending
def N_law_below : List Str := ["_law_record", "_law_level", "_law_todo", "_law_k", "_law_low", "_law_high"]
def g_law_below : FS :=
  (gSeq (gOwnL 2 [])
  (gSeq (gFor (iR1 (f1 dLen (f2 dIx (fVar 0) (fC (.int 5))))) (bName 3) (gSeq (gUn [4, 5] (fM (fTup [(f2 dIx (fVar 0) (fC (.int 2))), (f2 dIx (fVar 0) (fC (.int 3)))])))
  (gSeq (gIf (fT (f2 dGt (fVar 3) (fC (.int 0)))) (gSet 4 (fM (f2 dIx (f2 dIx (fVar 0) (fC (.int 4))) (f2 dSub (fVar 3) (fC (.int 1)))))) gNx)
  (gSeq (gIf (fT (f2 dLt (fVar 3) (f1 dLen (f2 dIx (fVar 0) (fC (.int 4)))))) (gSet 5 (fM (f2 dIx (f2 dIx (fVar 0) (fC (.int 4))) (fVar 3)))) gNx)
  (gApp 2 (fTup [(f2 dIx (f2 dIx (fVar 0) (fC (.int 5))) (fVar 3)), (fVar 4), (fVar 5), (f2 dSub (fVar 1) (fC (.int 1)))]))))))
  (gRet (fM (fVar 2)))))
def fn_law_below : List D → Option D := fnOf 6 2 g_law_below
def N_law_fits : List Str := ["_law_page", "_law_record", "_law_low", "_law_high", "_law_level", "_law_least"]
def g_law_fits : FS :=
  (gSeq (gSet 5 (fM (f2 dMul (fC (.int 2)) (f1 dInt (f2 dNe (fVar 0) (fC (.int 0)))))))
  (gSeq (gIf (fAndT (fT (f2 dEq (f2 dIx (fVar 1) (fC (.int 0))) (fC (.str "leaf")))) (fT (f2 dEq (f1 dLen (fVar 1)) (fC (.int 5))))) (gSeq (gIf (fOrT (fT (f2 dGt (fVar 4) (fC (.int 0)))) (fOrT (fT (f2 dNe (fSl (fVar 1) (oSome (fC (.int 1))) (oSome (fC (.int 3)))) (fTup [(fVar 2), (fVar 3)]))) (fNotT (fT (fCh dLe dLe (fVar 5) (f1 dLen (f2 dIx (fVar 1) (fC (.int 3)))) (fC (.int 4))))))) (gRet (fM (fC (.bl false)))) gNx)
  (gRet (fM (fAnd (f2 dEq (f1 dLen (f2 dIx (fVar 1) (fC (.int 4)))) (f1 dLen (f2 dIx (fVar 1) (fC (.int 3))))) (fCall fn_law_ascending [(f2 dIx (fVar 1) (fC (.int 3))), (fVar 2), (fVar 3)]))))) gNx)
  (gSeq (gIf (fOrT (fT (f2 dNe (f2 dIx (fVar 1) (fC (.int 0))) (fC (.str "inner")))) (fOrT (fT (f2 dNe (f1 dLen (fVar 1)) (fC (.int 6)))) (fT (f2 dLt (f2 dIx (fVar 1) (fC (.int 1))) (fC (.int 1)))))) (gRet (fM (fC (.bl false)))) gNx)
  (gSeq (gIf (fOrT (fAndT (fT (f2 dGe (fVar 4) (fC (.int 0)))) (fT (f2 dNe (f2 dIx (fVar 1) (fC (.int 1))) (fVar 4)))) (fT (f2 dNe (fSl (fVar 1) (oSome (fC (.int 2))) (oSome (fC (.int 4)))) (fTup [(fVar 2), (fVar 3)])))) (gRet (fM (fC (.bl false)))) gNx)
  (gSeq (gIf (fOrT (fNotT (fT (fCh dLe dLe (fC (.int 2)) (f1 dLen (f2 dIx (fVar 1) (fC (.int 5)))) (fC (.int 5))))) (fT (f2 dNe (f1 dLen (f2 dIx (fVar 1) (fC (.int 4)))) (f2 dSub (f1 dLen (f2 dIx (fVar 1) (fC (.int 5)))) (fC (.int 1)))))) (gRet (fM (fC (.bl false)))) gNx)
  (gRet (fM (fAnd (fCall fn_law_ascending [(f2 dIx (fVar 1) (fC (.int 4))), (fVar 2), (fVar 3)]) (f2 dNin (fVar 2) (f2 dIx (fVar 1) (fC (.int 4))))))))))))
def fn_law_fits : List D → Option D := fnOf 6 5 g_law_fits
def N_law_map : List Str := ["_law_pages", "_law_table", "_law_todo", "_law_seen", "_law_turn", "_law_page", "_law_low", "_law_high", "_law_level", "_law_record", "_law_k", "_law_live"]
def g_law_map : FS :=
  (gSeq (gOwnD 1)
  (gSeq (gSet 2 (fM (fLst [(fTup [(fC (.int 0)), (fC .non), (fC .non), (fNeg (fC (.int 1)))])])))
  (gSeq (gOwnL 3 [])
  (gSeq (gFor (iR1 (fC (.int 400))) (bName 4) (gIf (fT (f2 dLt (fVar 4) (f1 dLen (fVar 2)))) (gSeq (gUn [5, 6, 7, 8] (fM (f2 dIx (fVar 2) (fVar 4))))
  (gSeq (gIf (fOrT (fT (f2 dIn (fVar 5) (fVarC 3))) (fT (f2 dNin (fVar 5) (fVar 0)))) (gRet (fM (fC .non))) gNx)
  (gSeq (gApp 3 (fVar 5))
  (gSeq (gSet 9 (fM (f2 dIx (f2 dIx (fVar 0) (fVar 5)) (fC (.int 1)))))
  (gSeq (gIf (fNotT (fT (fCall fn_law_fits [(fVar 5), (fVar 9), (fVar 6), (fVar 7), (fVar 8)]))) (gRet (fM (fC .non))) gNx)
  (gIf (fT (f2 dEq (f2 dIx (fVar 9) (fC (.int 0))) (fC (.str "leaf")))) (gFor (iR1 (f1 dLen (f2 dIx (fVar 9) (fC (.int 3))))) (bName 10) (gPut 1 (f2 dIx (f2 dIx (fVar 9) (fC (.int 3))) (fVar 10)) (f2 dIx (f2 dIx (fVar 9) (fC (.int 4))) (fVar 10)))) (gSet 2 (fM (f2 dAdd (fVar 2) (fCall fn_law_below [(fVar 9), (f2 dIx (fVar 9) (fC (.int 1)))])))))))))) gNx))
  (gSeq (gSet 11 (fM (fLcK (fdVar 0) (some 0) (fT (f2 dNe (f2 dIx (f2 dIx (f2 dIx (fVar 0) (fVar 5)) (fC (.int 1))) (fC (.int 0))) (fC (.str "free")))) (fVar 5) 5)))
  (gSeq (gIf (fT (f2 dNe (f1 dSorted (fVarC 3)) (f1 dSorted (fVar 11)))) (gRet (fM (fC .non))) gNx)
  (gRet (fM (fVar 1)))))))))
def fn_law_map : List D → Option D := fnOf 12 1 g_law_map
def N_law_start : List Str := []
def g_law_start : FS :=
  (gRet (fM (fDic1 (fC (.int 0)) (fTup [(fC (.int 100)), (fTup [(fC (.str "leaf")), (fC .non), (fC .non), (fTup []), (fTup [])])]))))
def fn_law_start : List D → Option D := fnOf 0 0 g_law_start
def N_law_filled : List Str := ["_law_cell_here", "_law_digits_here", "_law_pages", "_law_table", "_law_many_here", "_law_k", "_law_key", "_law_told"]
def g_law_filled : FS :=
  (gSeq (gSet 1 (fM (fCall fn_law_digits [(fVar 0), (fLst [(fC (.int 4)), (fC (.int 40)), (fC (.int 7)), (fC (.int 3))])])))
  (gSeq (gSet 2 (fM (fCall fn_law_start [])))
  (gSeq (gOwnD 3)
  (gSeq (gSet 4 (fM (f2 dMod (f2 dIx (fVar 1) (fC (.int 1))) (fC (.int 8)))))
  (gSeq (gIf (fT (f2 dEq (f2 dIx (fVar 1) (fC (.int 0))) (fC (.int 0)))) (gSet 4 (fM (f2 dIx (fVar 1) (fC (.int 1))))) gNx)
  (gSeq (gFor (iR1 (fVar 4)) (bName 5) (gSeq (gSet 6 (fM (f2 dSub (f2 dMul (f2 dMod (f2 dAdd (f2 dMul (fVar 5) (f2 dAdd (f2 dMul (fC (.int 2)) (f2 dIx (fVar 1) (fC (.int 2)))) (fC (.int 1)))) (f2 dIx (fVar 1) (fC (.int 3)))) (fC (.int 41))) (fC (.int 3))) (fC (.int 60)))))
  (gSeq (gSet 7 (fM (fCall fn_law_planned [(fVar 2), (fTup [(fC (.str "put")), (fVar 6), (fVar 5)])])))
  (gSeq (gIf (fT (f2 dEq (f2 dIx (fVar 7) (fC (.int 0))) (fC (.str "change")))) (gSeq (gSet 2 (fM (fCall fn_law_applied [(fVar 2), (f2 dIx (fVar 7) (fC (.int 2)))])))
  (gIf (fT (f2 dIsN (fVar 2) (fC .non))) (gRet (fM (fTup [(fC .non), (fVar 3)]))) gNx)) gNx)
  (gPut 3 (fVar 6) (fVar 5))))))
  (gRet (fM (fTup [(fVar 2), (fVar 3)])))))))))
def fn_law_filled : List D → Option D := fnOf 8 1 g_law_filled
def N_law_pages_of : List Str := ["_law_told", "_law_entry"]
def g_law_pages_of : FS :=
  (gRet (fM (fLc (iL (f2 dIx (fVar 0) (fC (.int 2)))) (fT (f2 dGe (f2 dIx (fVar 1) (fC (.int 0))) (fC (.int 0)))) (f2 dIx (fVar 1) (fC (.int 0))) 1)))
def fn_law_pages_of : List D → Option D := fnOf 2 1 g_law_pages_of
def N_law_both : List Str := ["_law_pages", "_law_first", "_law_second", "_law_table", "_law_between", "_law_after"]
def g_law_both : FS :=
  (gSeq (gSet 4 (fM (fCall fn_law_applied [(fVar 0), (f2 dIx (fVar 1) (fC (.int 2)))])))
  (gSeq (gIf (fOrT (fT (f2 dIsN (fVar 4) (fC .non))) (fT (f2 dIsN (fCall fn_law_map [(fVar 4)]) (fC .non)))) (gRet (fM (fC (.bl false)))) gNx)
  (gSeq (gSet 5 (fM (fCall fn_law_applied [(fVar 4), (f2 dIx (fVar 2) (fC (.int 2)))])))
  (gRet (fM (fAnd (f2 dNotN (fVar 5) (fC .non)) (f2 dEqDic (fCall fn_law_map [(fVar 5)]) (fVar 3))))))))
def fn_law_both : List D → Option D := fnOf 6 4 g_law_both
def N_law_alone : List Str := ["_law_pages", "_law_first", "_law_second", "_law_between"]
def g_law_alone : FS :=
  (gSeq (gSet 3 (fM (fCall fn_law_applied [(fVar 0), (f2 dIx (fVar 1) (fC (.int 2)))])))
  (gSeq (gIf (fOrT (fT (f2 dIsN (fVar 3) (fC .non))) (fT (f2 dIsN (fCall fn_law_map [(fVar 3)]) (fC .non)))) (gRet (fM (fC (.bl false)))) gNx)
  (gRet (fM (f2 dIsN (fCall fn_law_applied [(fVar 3), (f2 dIx (fVar 2) (fC (.int 2)))]) (fC .non))))))
def fn_law_alone : List D → Option D := fnOf 4 3 g_law_alone
def N_law : List Str := ["_law_script", "_law_pages", "_law_table", "_law_k", "_law_call_here", "_law_other", "_law_first", "_law_second", "_law_common", "_law_page", "_law_due_here"]
def g_law : FS :=
  (gSeq (gUn [1, 2] (fM (fCall fn_law_filled [(fCall fn_law_cell [(fVar 0), (fC (.int 0))])])))
  (gSeq (gIf (fT (f2 dIsN (fVar 1) (fC .non))) (gRet (fM (fC (.bl false)))) gNx)
  (gSeq (gFor (iR1 (f2 dMin (f1 dLen (fVar 0)) (fCall fn_law_many [(fVar 0), (fC (.int 6)), (fC (.int 20))]))) (bName 3) (gSeq (gSet 4 (fM (fCall fn_law_call [(f2 dAdd (fCall fn_law_cell [(fVar 0), (fVar 3)]) (fVar 3)), (fC (.int 130)), (fVar 2)])))
  (gSeq (gSet 5 (fM (fCall fn_law_call [(f2 dAdd (f2 dAdd (f2 dDiv (fCall fn_law_cell [(fVar 0), (fVar 3)]) (fC (.int 7))) (f2 dMul (fC (.int 31)) (fVar 3))) (fC (.int 5))), (fC (.int 130)), (fVar 2)])))
  (gSeq (gSet 6 (fM (fCall fn_law_planned [(fVar 1), (fVar 4)])))
  (gSeq (gSet 7 (fM (fCall fn_law_planned [(fVar 1), (fVar 5)])))
  (gSeq (gIf (fAndT (fT (f2 dEq (f2 dIx (fVar 6) (fC (.int 0))) (fC (.str "change")))) (fT (f2 dEq (f2 dIx (fVar 7) (fC (.int 0))) (fC (.str "change"))))) (gSeq (gSet 8 (fM (fLc (iL (fCall fn_law_pages_of [(fVar 6)])) (fT (f2 dIn (fVar 9) (fCall fn_law_pages_of [(fVar 7)]))) (fVar 9) 9)))
  (gSeq (gSet 10 (fM (f2 dIx (fCall fn_law_due [(f2 dIx (fCall fn_law_due [(fVar 2), (fVar 4)]) (fC (.int 1))), (fVar 5)]) (fC (.int 1)))))
  (gIf (fT (f2 dEq (fVar 8) (fLst []))) (gIf (fOrT (fNotT (fT (fCall fn_law_both [(fVar 1), (fVar 6), (fVar 7), (fVar 10)]))) (fNotT (fT (fCall fn_law_both [(fVar 1), (fVar 7), (fVar 6), (fVar 10)])))) (gRet (fM (fC (.bl false)))) gNx) (gIf (fOrT (fNotT (fT (fCall fn_law_alone [(fVar 1), (fVar 6), (fVar 7)]))) (fNotT (fT (fCall fn_law_alone [(fVar 1), (fVar 7), (fVar 6)])))) (gRet (fM (fC (.bl false)))) gNx)))) gNx)
  (gIf (fT (f2 dEq (f2 dIx (fVar 6) (fC (.int 0))) (fC (.str "change")))) (gSeq (gSet 1 (fM (fCall fn_law_applied [(fVar 1), (f2 dIx (fVar 6) (fC (.int 2)))])))
  (gSet 2 (fM (f2 dIx (fCall fn_law_due [(fVar 2), (fVar 4)]) (fC (.int 1)))))) gNx)))))))
  (gRet (fM (fC (.bl true)))))))
def fn_law : List D → Option D := fnOf 11 1 g_law
end K32
end
section
set_option Elab.async false
set_option linter.all false
set_option maxRecDepth 100000
set_option maxHeartbeats 4000000
namespace K32
open PySem PySem.Spec PyProof.Rows L2
section
variable {P : Program} {w : World} {K : PySem.W.Frag} {mg : Str → Option Value} {base : Heap}
theorem sc_Draft_init : FnScope ["self", "path", "siblings"] ["self", "path", "siblings"] (defScope s_Draft_init) := ⟨rfl, rfl, rfl, by decide +kernel, rfl, by decide +kernel, by decide +kernel⟩
theorem drF_made {vp vs : V} {l1 l2 : Addr} {n : Int} : putF "fresh" (.int n) (putF "addresses" (.ref l2) (putF "records" (.ref l1) (putF "siblings" vs (putF "path" vp [])))) = drF vp vs l1 l2 n := by
  have e1 : putF "path" vp [] = [(("path" : Str), vp)] := rfl
  rw [e1, putF_ne sn1]
  have e2 : putF "siblings" vs [] = [(("siblings" : Str), vs)] := rfl
  rw [e2, putF_ne sn2, putF_ne sn3]
  have e3 : putF "records" (V.ref l1) [] = [(("records" : Str), V.ref l1)] := rfl
  rw [e3, putF_ne sn4, putF_ne sn5, putF_ne sn6]
  have e4 : putF "addresses" (V.ref l2) [] = [(("addresses" : Str), V.ref l2)] := rfl
  rw [e4, putF_ne sn7, putF_ne sn8, putF_ne sn9, putF_ne sn10]
  rfl
theorem len_put {f : Str} {v : V} {fs : List (Str × V)} {n : Nat} (h : fs.length ≤ n) (hn : n < 998) : (putF f v fs).length ≤ n + 1 ∧ n + 1 < 999 := ⟨Nat.le_trans (length_putF f v fs) (by omega), by omega⟩
theorem ok_init {f : Addr} {fd : FuncData} (T : Txt P w K mg base) (F : FunD K "__init__" "Draft.__init__" (defArgs s_Draft_init) (defBody s_Draft_init) (defScope s_Draft_init) [] [] f fd) : FnOk P w K mg base CX0 1 f fd ["self", "path", "siblings"] (spInit K) := by
  refine F.ok sc_Draft_init (fun vs H Q E h => ?_) (fun cdv A outer s H vs Q E hr h => ?_)
  · obtain ⟨x, dx, v1, v2, rfl, _⟩ := h
    rfl
  · obtain ⟨x, dx, v1, v2, rfl, hx, k⟩ := h
    refine ⟨_, pss_cons (ps_fld (pv 0) (pv 1) rfl) (pss_cons (ps_fld (pv 0) (pv 2) rfl) (pss_cons (ps_fld (pv 0) pe_dnewK rfl) (pss_cons (ps_fld (pv 0) pe_dnewK rfl) (pss_one (ps_fld (pv 0) pe_int rfl))))), ?_⟩
    have L1 := length_putF ("path" : Str) v1 []
    have L2' := length_putF ("siblings" : Str) v2 (putF "path" v1 [])
    refine ⟨v1, rfl, _, rfl, x, _, dx, [], rfl, hx, T.dr.cl, T.dr.nP, (by show 0 < 1000; decide), ?_⟩
    refine ⟨v2, rfl, _, rfl, x, _, dx, _, rfl, upd_same, T.dr.cl, T.dr.nS, (by simp only [List.length_nil] at L1; omega), ?_⟩
    intro l1 h1
    have n1 : x ≠ l1 := fun q => by rw [q, upd_same] at h1; cases h1
    have L3 := length_putF ("records" : Str) (V.ref l1) (putF "siblings" v2 (putF "path" v1 []))
    refine ⟨_, rfl, x, _, dx, _, rfl, (by rw [upd_ne n1]; exact upd_same), T.dr.cl, T.dr.nR, (by simp only [List.length_nil] at L1; omega), ?_⟩
    intro l2 h2
    have n2 : x ≠ l2 := fun q => by rw [q, upd_same] at h2; cases h2
    have L4 := length_putF ("addresses" : Str) (V.ref l2) (putF "records" (V.ref l1) (putF "siblings" v2 (putF "path" v1 [])))
    refine ⟨_, rfl, x, _, dx, _, rfl, (by rw [upd_ne n2]; exact upd_same), T.dr.cl, T.dr.nA, (by simp only [List.length_nil] at L1; omega), ?_⟩
    refine ⟨_, rfl, x, _, dx, _, rfl, upd_same, T.dr.cl, T.dr.nF, (by simp only [List.length_nil] at L1; omega), ?_⟩
    have h1' : H l1 = none := by
      rw [upd_ne n1.symm, upd_ne n1.symm] at h1
      exact h1
    have n3 : l1 ≠ l2 := fun q => by
      rw [← q, upd_ne n1.symm, upd_same] at h2
      cases h2
    have h2' : H l2 = none := by
      rw [upd_ne n2.symm, upd_ne n3.symm, upd_ne n2.symm, upd_ne n2.symm] at h2
      exact h2
    refine k _ l1 l2 h1' h2' n3 (fun a o na e => ?_) ?_ ?_ ?_
    · have na1 : a ≠ l1 := fun q => by rw [q, h1'] at e; cases e
      have na2 : a ≠ l2 := fun q => by rw [q, h2'] at e; cases e
      rw [upd_ne na, upd_ne na, upd_ne na2, upd_ne na, upd_ne na1, upd_ne na, upd_ne na]
      exact e
    · rw [upd_ne n1.symm, upd_ne n1.symm, upd_ne n3, upd_ne n1.symm, upd_same]
    · rw [upd_ne n2.symm, upd_ne n2.symm, upd_same]
    · rw [upd_same, drF_made]
end
end K32
end
section
set_option Elab.async false
set_option linter.all false
set_option maxRecDepth 100000
set_option maxHeartbeats 4000000
namespace K32
open PySem PySem.Spec PyProof.Rows L2
/-! the defs walked, printed by gen.py -/
section
variable {P : Program} {w : World} {K : PySem.W.Frag} {mg : Str → Option Value} {base : Heap}
theorem sc_is_integer : FnScope N_is_integer ["value"] (defScope s_is_integer) := ⟨rfl, rfl, rfl, by decide +kernel, rfl, by decide +kernel, by decide +kernel⟩
theorem ok_is_integer {f : Addr} {fd : FuncData} (T : Txt P w K mg base) (F : FunD K "is_integer" "is_integer" (defArgs s_is_integer) (defBody s_is_integer) (defScope s_is_integer) [] [] f fd) (hm : mg "is_integer" = some (.ref f))
     :
    Cal P w K mg base "is_integer" ["value"] 1 (spP K fn_is_integer) :=
  cal_of F hm sc_is_integer (F.bindsN fun _ _ _ _ _ _ us hl => match us, hl with | [_], _ => rfl) fun cdv A outer s H E (hr : Room 0 _) =>
  (dss_one (ds_ret (DE.m (de_and (de_isi rfl T.isinstance boot_isi' (pe_bltn rfl T.int boot_int' rfl) (de_var 0 (pv 0))) (de_one (de_not (de_isi rfl T.isinstance boot_isi' (pe_bltn rfl T.bool boot_bool' rfl) (de_var 0 (pv 0)))))))))
theorem sc_is_bound : FnScope N_is_bound ["value"] (defScope s_is_bound) := ⟨rfl, rfl, rfl, by decide +kernel, rfl, by decide +kernel, by decide +kernel⟩
theorem ok_is_bound {f : Addr} {fd : FuncData} (T : Txt P w K mg base) (F : FunD K "is_bound" "is_bound" (defArgs s_is_bound) (defBody s_is_bound) (defScope s_is_bound) [] [] f fd) (hm : mg "is_bound" = some (.ref f))
    (c_is_integer : Cal P w K mg base "is_integer" ["value"] 1 (spP K fn_is_integer)) :
    Cal P w K mg base "is_bound" ["value"] 2 (spP K fn_is_bound) :=
  cal_of F hm sc_is_bound (F.bindsN fun _ _ _ _ _ _ us hl => match us, hl with | [_], _ => rfl) fun cdv A outer s H E (hr : Room 1 _) =>
  (dss_one (ds_ret (DE.m (de_or (de_cmp op_isN os_isN (de_var 0 (pv 0)) de_non (nomark _)) (de_one (de_call c_is_integer hr (by decide) rfl (da_cons (de_var 0 (pv 0)) da_nil)))))))
theorem sc_are_integers : FnScope N_are_integers ["values"] (defScope s_are_integers) := ⟨rfl, rfl, rfl, by decide +kernel, rfl, by decide +kernel, by decide +kernel⟩
theorem ok_are_integers {f : Addr} {fd : FuncData} (T : Txt P w K mg base) (F : FunD K "are_integers" "are_integers" (defArgs s_are_integers) (defBody s_are_integers) (defScope s_are_integers) [] [] f fd) (hm : mg "are_integers" = some (.ref f))
    (c_is_integer : Cal P w K mg base "is_integer" ["value"] 1 (spP K fn_is_integer)) :
    Cal P w K mg base "are_integers" ["values"] 2 (spP K fn_are_integers) :=
  cal_of F hm sc_are_integers (F.bindsN fun _ _ _ _ _ _ us hl => match us, hl with | [_], _ => rfl) fun cdv A outer s H E (hr : Room 1 _) =>
  (dss_one (ds_ret (DE.m (de_and (de_isi rfl T.isinstance boot_isi' (pe_bltn rfl T.tuple boot_tuple' rfl) (de_var 0 (pv 0))) (de_one (de_b1 (cr_all rfl) co_all rfl T.all boot_all' (DE.c (de_lc rfl sc_are_integers.nd (di_tup (de_var 0 (pv 0))) (blkOk_by (own := [("value", 1)]) (N := N_are_integers) (sc := defScope s_are_integers) (by decide +kernel)) (fun _ _ _ _ _ => pg_name (i := 1) sc_are_integers.nd rfl (Or.inl rfl)) (fun _ _ _ _ _ => dts_nil) (fun _ _ _ _ _ => (de_call c_is_integer hr (by decide) rfl (da_cons (de_var 1 (pv 1)) da_nil)))))))))))
theorem sc_are_ascending : FnScope N_are_ascending ["keys"] (defScope s_are_ascending) := ⟨rfl, rfl, rfl, by decide +kernel, rfl, by decide +kernel, by decide +kernel⟩
theorem ok_are_ascending {f : Addr} {fd : FuncData} (T : Txt P w K mg base) (F : FunD K "are_ascending" "are_ascending" (defArgs s_are_ascending) (defBody s_are_ascending) (defScope s_are_ascending) [] [] f fd) (hm : mg "are_ascending" = some (.ref f))
     :
    Cal P w K mg base "are_ascending" ["keys"] 1 (spP K fn_are_ascending) :=
  cal_of F hm sc_are_ascending (F.bindsN fun _ _ _ _ _ _ us hl => match us, hl with | [_], _ => rfl) fun cdv A outer s H E (hr : Room 0 _) =>
  (dss_cons
  (ds_for PassesOwn.never rfl (di_r2 rfl T.range de_int (de_b1 call_len_seq co_len rfl T.len boot_len' (DE.c (de_var 0 (pv 0))))) (pg_name (i := 1) sc_are_ascending.nd rfl (by first | exact Or.inl rfl | exact Or.inr rfl)) (tg_name 1) (dss_one (ds_if (dt_cmp op_ge os_ge (de_ix hr (DE.c (de_var 0 (pv 0))) (DE.c (de_bin op_sub os_sub (de_var 1 (pv 1)) de_int)) (fun _ _ => rfl)) (de_ix hr (DE.c (de_var 0 (pv 0))) (DE.c (de_var 1 (pv 1))) (fun _ _ => rfl)) (nomark _)) (dss_one (ds_ret (DE.m de_bl))) dss_nil)))
  (dss_one (ds_ret (DE.m de_bl))))
theorem sc_is_above : FnScope N_is_above ["key", "low"] (defScope s_is_above) := ⟨rfl, rfl, rfl, by decide +kernel, rfl, by decide +kernel, by decide +kernel⟩
theorem ok_is_above {f : Addr} {fd : FuncData} (T : Txt P w K mg base) (F : FunD K "is_above" "is_above" (defArgs s_is_above) (defBody s_is_above) (defScope s_is_above) [] [] f fd) (hm : mg "is_above" = some (.ref f))
     :
    Cal P w K mg base "is_above" ["key", "low"] 1 (spP K fn_is_above) :=
  cal_of F hm sc_is_above (F.bindsN fun _ _ _ _ _ _ us hl => match us, hl with | [_, _], _ => rfl) fun cdv A outer s H E (hr : Room 0 _) =>
  (dss_one (ds_ret (DE.m (de_or (de_cmp op_isN os_isN (de_var 1 (pv 1)) de_non (nomark _)) (de_one (de_cmp op_ge os_ge (de_var 0 (pv 0)) (de_var 1 (pv 1)) (nomark _)))))))
theorem sc_is_below : FnScope N_is_below ["key", "high"] (defScope s_is_below) := ⟨rfl, rfl, rfl, by decide +kernel, rfl, by decide +kernel, by decide +kernel⟩
theorem ok_is_below {f : Addr} {fd : FuncData} (T : Txt P w K mg base) (F : FunD K "is_below" "is_below" (defArgs s_is_below) (defBody s_is_below) (defScope s_is_below) [] [] f fd) (hm : mg "is_below" = some (.ref f))
     :
    Cal P w K mg base "is_below" ["key", "high"] 1 (spP K fn_is_below) :=
  cal_of F hm sc_is_below (F.bindsN fun _ _ _ _ _ _ us hl => match us, hl with | [_, _], _ => rfl) fun cdv A outer s H E (hr : Room 0 _) =>
  (dss_one (ds_ret (DE.m (de_or (de_cmp op_isN os_isN (de_var 1 (pv 1)) de_non (nomark _)) (de_one (de_cmp op_lt os_lt (de_var 0 (pv 0)) (de_var 1 (pv 1)) (nomark _)))))))
theorem sc_is_leaf : FnScope N_is_leaf ["record"] (defScope s_is_leaf) := ⟨rfl, rfl, rfl, by decide +kernel, rfl, by decide +kernel, by decide +kernel⟩
theorem ok_is_leaf {f : Addr} {fd : FuncData} (T : Txt P w K mg base) (F : FunD K "is_leaf" "is_leaf" (defArgs s_is_leaf) (defBody s_is_leaf) (defScope s_is_leaf) [] [] f fd) (hm : mg "is_leaf" = some (.ref f))
    (c_is_bound : Cal P w K mg base "is_bound" ["value"] 2 (spP K fn_is_bound))
    (c_are_integers : Cal P w K mg base "are_integers" ["values"] 2 (spP K fn_are_integers))
    (c_are_ascending : Cal P w K mg base "are_ascending" ["keys"] 1 (spP K fn_are_ascending))
    (c_is_below : Cal P w K mg base "is_below" ["key", "high"] 1 (spP K fn_is_below))
    (c_is_above : Cal P w K mg base "is_above" ["key", "low"] 1 (spP K fn_is_above)) :
    Cal P w K mg base "is_leaf" ["record"] 3 (spP K fn_is_leaf) :=
  cal_of F hm sc_is_leaf (F.bindsN fun _ _ _ _ _ _ us hl => match us, hl with | [_], _ => rfl) fun cdv A outer s H E (hr : Room 2 _) =>
  (dss_cons
  (ds_if (dt_w (dw_or (dt_cmp (op_neX hr) os_ne (de_b1 call_len_seq co_len rfl T.len boot_len' (DE.c (de_var 0 (pv 0)))) de_int (nomark _)) (dw_or (dt_not (dt_val (de_call c_is_bound hr (by decide) rfl (da_cons (de_ix hr (DE.c (de_var 0 (pv 0))) (DE.c de_int) (fun _ _ => rfl)) da_nil)))) (dw_or1 (dt_not (dt_val (de_call c_is_bound hr (by decide) rfl (da_cons (de_ix hr (DE.c (de_var 0 (pv 0))) (DE.c de_int) (fun _ _ => rfl)) da_nil)))))))) (dss_one (ds_ret (DE.m de_bl))) dss_nil)
  (dss_cons
  (ds_un (is := [1, 2, 3, 4]) rfl (DE.m (de_sl (de_var 0 (pv 0)) (do_some de_int) do_none)) (dg_cons (pg_name (i := 1) sc_is_leaf.nd rfl (by first | exact Or.inl rfl | exact Or.inr rfl)) (dg_cons (pg_name (i := 2) sc_is_leaf.nd rfl (by first | exact Or.inl rfl | exact Or.inr rfl)) (dg_cons (pg_name (i := 3) sc_is_leaf.nd rfl (by first | exact Or.inl rfl | exact Or.inr rfl)) (dg_cons (pg_name (i := 4) sc_is_leaf.nd rfl (by first | exact Or.inl rfl | exact Or.inr rfl)) dg_nil)))))
  (dss_cons
  (ds_if (dt_w (dw_or (dt_not (dt_val (de_call c_are_integers hr (by decide) rfl (da_cons (de_var 3 (pv 3)) da_nil)))) (dw_or (dt_not (dt_val (de_call c_are_integers hr (by decide) rfl (da_cons (de_var 4 (pv 4)) da_nil)))) (dw_or1 (dt_cmp (op_neX hr) os_ne (de_b1 call_len_seq co_len rfl T.len boot_len' (DE.c (de_var 3 (pv 3)))) (de_b1 call_len_seq co_len rfl T.len boot_len' (DE.c (de_var 4 (pv 4)))) (nomark _)))))) (dss_one (ds_ret (DE.m de_bl))) dss_nil)
  (dss_cons
  (ds_if (dt_w (dw_or (dt_w (dw_and (dt_cmp op_notN os_notN (de_var 1 (pv 1)) de_non (nomark _)) (dw_and1 (dt_not (dt_val (de_call c_is_below hr (by decide) rfl (da_cons (de_var 1 (pv 1)) (da_cons (de_var 2 (pv 2)) da_nil)))))))) (dw_or1 (dt_not (dt_val (de_call c_are_ascending hr (by decide) rfl (da_cons (de_var 3 (pv 3)) da_nil))))))) (dss_one (ds_ret (DE.m de_bl))) dss_nil)
  (dss_one (ds_ret (DE.m (de_b1 (cr_all rfl) co_all rfl T.all boot_all' (DE.c (de_lc rfl sc_is_leaf.nd (di_tup (de_var 3 (pv 3))) (blkOk_by (own := [("key", 5)]) (N := N_is_leaf) (sc := defScope s_is_leaf) (by decide +kernel)) (fun _ _ _ _ _ => pg_name (i := 5) sc_is_leaf.nd rfl (Or.inl rfl)) (fun _ _ _ _ _ => dts_nil) (fun _ _ _ _ _ => (de_and (de_call c_is_above hr (by decide) rfl (da_cons (de_var 5 (pv 5)) (da_cons (de_var 1 (pv 1)) da_nil))) (de_one (de_call c_is_below hr (by decide) rfl (da_cons (de_var 5 (pv 5)) (da_cons (de_var 2 (pv 2)) da_nil))))))))))))))))
theorem sc_is_inner : FnScope N_is_inner ["record"] (defScope s_is_inner) := ⟨rfl, rfl, rfl, by decide +kernel, rfl, by decide +kernel, by decide +kernel⟩
theorem ok_is_inner {f : Addr} {fd : FuncData} (T : Txt P w K mg base) (F : FunD K "is_inner" "is_inner" (defArgs s_is_inner) (defBody s_is_inner) (defScope s_is_inner) [] [] f fd) (hm : mg "is_inner" = some (.ref f))
    (c_is_integer : Cal P w K mg base "is_integer" ["value"] 1 (spP K fn_is_integer))
    (c_is_bound : Cal P w K mg base "is_bound" ["value"] 2 (spP K fn_is_bound))
    (c_are_integers : Cal P w K mg base "are_integers" ["values"] 2 (spP K fn_are_integers))
    (c_is_below : Cal P w K mg base "is_below" ["key", "high"] 1 (spP K fn_is_below))
    (c_are_ascending : Cal P w K mg base "are_ascending" ["keys"] 1 (spP K fn_are_ascending)) :
    Cal P w K mg base "is_inner" ["record"] 3 (spP K fn_is_inner) :=
  cal_of F hm sc_is_inner (F.bindsN fun _ _ _ _ _ _ us hl => match us, hl with | [_], _ => rfl) fun cdv A outer s H E (hr : Room 2 _) =>
  (dss_cons
  (ds_if (dt_w (dw_or (dt_cmp (op_neX hr) os_ne (de_b1 call_len_seq co_len rfl T.len boot_len' (DE.c (de_var 0 (pv 0)))) de_int (nomark _)) (dw_or (dt_not (dt_val (de_call c_is_integer hr (by decide) rfl (da_cons (de_ix hr (DE.c (de_var 0 (pv 0))) (DE.c de_int) (fun _ _ => rfl)) da_nil)))) (dw_or1 (dt_cmp op_lt os_lt (de_ix hr (DE.c (de_var 0 (pv 0))) (DE.c de_int) (fun _ _ => rfl)) de_int (nomark _)))))) (dss_one (ds_ret (DE.m de_bl))) dss_nil)
  (dss_cons
  (ds_un (is := [1, 2, 3, 4]) rfl (DE.m (de_sl (de_var 0 (pv 0)) (do_some de_int) do_none)) (dg_cons (pg_name (i := 1) sc_is_inner.nd rfl (by first | exact Or.inl rfl | exact Or.inr rfl)) (dg_cons (pg_name (i := 2) sc_is_inner.nd rfl (by first | exact Or.inl rfl | exact Or.inr rfl)) (dg_cons (pg_name (i := 3) sc_is_inner.nd rfl (by first | exact Or.inl rfl | exact Or.inr rfl)) (dg_cons (pg_name (i := 4) sc_is_inner.nd rfl (by first | exact Or.inl rfl | exact Or.inr rfl)) dg_nil)))))
  (dss_cons
  (ds_if (dt_w (dw_or (dt_not (dt_val (de_call c_is_bound hr (by decide) rfl (da_cons (de_var 1 (pv 1)) da_nil)))) (dw_or (dt_not (dt_val (de_call c_is_bound hr (by decide) rfl (da_cons (de_var 2 (pv 2)) da_nil)))) (dw_or (dt_not (dt_val (de_call c_are_integers hr (by decide) rfl (da_cons (de_var 3 (pv 3)) da_nil)))) (dw_or1 (dt_not (dt_val (de_call c_are_integers hr (by decide) rfl (da_cons (de_var 4 (pv 4)) da_nil))))))))) (dss_one (ds_ret (DE.m de_bl))) dss_nil)
  (dss_cons
  (ds_if (dt_w (dw_and (dt_cmp op_notN os_notN (de_var 1 (pv 1)) de_non (nomark _)) (dw_and1 (dt_not (dt_val (de_call c_is_below hr (by decide) rfl (da_cons (de_var 1 (pv 1)) (da_cons (de_var 2 (pv 2)) da_nil)))))))) (dss_one (ds_ret (DE.m de_bl))) dss_nil)
  (dss_cons
  (ds_if (dt_w (dw_or (dt_cmp (op_neX hr) os_ne (de_b1 call_len_seq co_len rfl T.len boot_len' (DE.c (de_var 4 (pv 4)))) (de_bin op_addD os_add (de_b1 call_len_seq co_len rfl T.len boot_len' (DE.c (de_var 3 (pv 3)))) de_int) (nomark _)) (dw_or1 (dt_not (dt_val (de_call c_are_ascending hr (by decide) rfl (da_cons (de_var 3 (pv 3)) da_nil))))))) (dss_one (ds_ret (DE.m de_bl))) dss_nil)
  (dss_one (ds_ret (DE.m (de_b1 (cr_all rfl) co_all rfl T.all boot_all' (DE.c (de_lc rfl sc_is_inner.nd (di_tup (de_var 3 (pv 3))) (blkOk_by (own := [("key", 5)]) (N := N_is_inner) (sc := defScope s_is_inner) (by decide +kernel)) (fun _ _ _ _ _ => pg_name (i := 5) sc_is_inner.nd rfl (Or.inl rfl)) (fun _ _ _ _ _ => dts_nil) (fun _ _ _ _ _ => (de_and (de_or (de_cmp op_isN os_isN (de_var 1 (pv 1)) de_non (nomark _)) (de_one (de_cmp op_gt os_gt (de_var 5 (pv 5)) (de_var 1 (pv 1)) (nomark _)))) (de_one (de_call c_is_below hr (by decide) rfl (da_cons (de_var 5 (pv 5)) (da_cons (de_var 2 (pv 2)) da_nil)))))))))))))))))
theorem sc_is_record : FnScope N_is_record ["value"] (defScope s_is_record) := ⟨rfl, rfl, rfl, by decide +kernel, rfl, by decide +kernel, by decide +kernel⟩
theorem ok_is_record {f : Addr} {fd : FuncData} (T : Txt P w K mg base) (F : FunD K "is_record" "is_record" (defArgs s_is_record) (defBody s_is_record) (defScope s_is_record) [] [] f fd) (hm : mg "is_record" = some (.ref f))
    (c_is_leaf : Cal P w K mg base "is_leaf" ["record"] 3 (spP K fn_is_leaf))
    (c_is_inner : Cal P w K mg base "is_inner" ["record"] 3 (spP K fn_is_inner))
    (c_is_integer : Cal P w K mg base "is_integer" ["value"] 1 (spP K fn_is_integer)) :
    Cal P w K mg base "is_record" ["value"] 4 (spP K fn_is_record) :=
  cal_of F hm sc_is_record (F.bindsN fun _ _ _ _ _ _ us hl => match us, hl with | [_], _ => rfl) fun cdv A outer s H E (hr : Room 3 _) =>
  (dss_cons
  (ds_if (dt_w (dw_or (dt_not (dt_val (de_isi rfl T.isinstance boot_isi' (pe_bltn rfl T.tuple boot_tuple' rfl) (de_var 0 (pv 0))))) (dw_or1 (dt_cmp op_lt os_lt (de_b1 call_len_seq co_len rfl T.len boot_len' (DE.c (de_var 0 (pv 0)))) de_int (nomark _))))) (dss_one (ds_ret (DE.m de_bl))) dss_nil)
  (dss_cons
  (ds_if (dt_cmp (op_eqX hr) os_eq (de_ix hr (DE.c (de_var 0 (pv 0))) (DE.c de_int) (fun _ _ => rfl)) de_str (nomark _)) (dss_one (ds_ret (DE.m (de_call c_is_leaf hr (by decide) rfl (da_cons (de_var 0 (pv 0)) da_nil))))) dss_nil)
  (dss_cons
  (ds_if (dt_cmp (op_eqX hr) os_eq (de_ix hr (DE.c (de_var 0 (pv 0))) (DE.c de_int) (fun _ _ => rfl)) de_str (nomark _)) (dss_one (ds_ret (DE.m (de_call c_is_inner hr (by decide) rfl (da_cons (de_var 0 (pv 0)) da_nil))))) dss_nil)
  (dss_one (ds_ret (DE.m (de_and (de_cmp (op_eqX hr) os_eq (de_ix hr (DE.c (de_var 0 (pv 0))) (DE.c de_int) (fun _ _ => rfl)) de_str (nomark _)) (de_and (de_cmp (op_eqX hr) os_eq (de_b1 call_len_seq co_len rfl T.len boot_len' (DE.c (de_var 0 (pv 0)))) de_int (nomark _)) (de_one (de_call c_is_integer hr (by decide) rfl (da_cons (de_ix hr (DE.c (de_var 0 (pv 0))) (DE.c de_int) (fun _ _ => rfl)) da_nil)))))))))))
theorem sc_checked : FnScope N_checked ["record"] (defScope s_checked) := ⟨rfl, rfl, rfl, by decide +kernel, rfl, by decide +kernel, by decide +kernel⟩
theorem ok_checked {f : Addr} {fd : FuncData} (T : Txt P w K mg base) (F : FunD K "checked" "checked" (defArgs s_checked) (defBody s_checked) (defScope s_checked) [] [] f fd) (hm : mg "checked" = some (.ref f))
    (c_is_record : Cal P w K mg base "is_record" ["value"] 4 (spP K fn_is_record)) :
    Cal P w K mg base "checked" ["record"] 5 (spP K fn_checked) :=
  cal_of F hm sc_checked (F.bindsN fun _ _ _ _ _ _ us hl => match us, hl with | [_], _ => rfl) fun cdv A outer s H E (hr : Room 4 _) =>
  (dss_cons
  (ds_if (dt_not (dt_val (de_call c_is_record hr (by decide) rfl (da_cons (de_var 0 (pv 0)) da_nil)))) (dss_one ds_never) dss_nil)
  (dss_one (ds_ret (DE.m (de_var 0 (pv 0))))))
end
end K32
end
section
set_option Elab.async false
set_option linter.all false
set_option maxRecDepth 100000
set_option maxHeartbeats 4000000
namespace K32
open PySem PySem.Spec PyProof.Rows L2
/-! the defs walked, printed by gen.py -/
section
variable {P : Program} {w : World} {K : PySem.W.Frag} {mg : Str → Option Value} {base : Heap}
theorem sc_leaf : FnScope N_leaf ["low", "high", "keys", "values"] (defScope s_leaf) := ⟨rfl, rfl, rfl, by decide +kernel, rfl, by decide +kernel, by decide +kernel⟩
theorem ok_leaf {f : Addr} {fd : FuncData} (T : Txt P w K mg base) (F : FunD K "leaf" "leaf" (defArgs s_leaf) (defBody s_leaf) (defScope s_leaf) [] [] f fd) (hm : mg "leaf" = some (.ref f))
    (c_checked : Cal P w K mg base "checked" ["record"] 5 (spP K fn_checked)) :
    Cal P w K mg base "leaf" ["low", "high", "keys", "values"] 6 (spP K fn_leaf) :=
  cal_of F hm sc_leaf (F.bindsN fun _ _ _ _ _ _ us hl => match us, hl with | [_, _, _, _], _ => rfl) fun cdv A outer s H E (hr : Room 5 _) =>
  (dss_one (ds_ret (DE.m (de_call c_checked hr (by decide) rfl (da_cons (de_tup (da_cons de_str (da_cons (de_var 0 (pv 0)) (da_cons (de_var 1 (pv 1)) (da_cons (de_t1 call_tuple_of co_tuple rfl T.tuple boot_tuple' (DE.c (de_var 2 (pv 2)))) (da_cons (de_t1 call_tuple_of co_tuple rfl T.tuple boot_tuple' (DE.c (de_var 3 (pv 3)))) da_nil)))))) da_nil)))))
theorem sc_inner : FnScope N_inner ["level", "low", "high", "keys", "pages"] (defScope s_inner) := ⟨rfl, rfl, rfl, by decide +kernel, rfl, by decide +kernel, by decide +kernel⟩
theorem ok_inner {f : Addr} {fd : FuncData} (T : Txt P w K mg base) (F : FunD K "inner" "inner" (defArgs s_inner) (defBody s_inner) (defScope s_inner) [] [] f fd) (hm : mg "inner" = some (.ref f))
    (c_checked : Cal P w K mg base "checked" ["record"] 5 (spP K fn_checked)) :
    Cal P w K mg base "inner" ["level", "low", "high", "keys", "pages"] 6 (spP K fn_inner) :=
  cal_of F hm sc_inner (F.bindsN fun _ _ _ _ _ _ us hl => match us, hl with | [_, _, _, _, _], _ => rfl) fun cdv A outer s H E (hr : Room 5 _) =>
  (dss_one (ds_ret (DE.m (de_call c_checked hr (by decide) rfl (da_cons (de_tup (da_cons de_str (da_cons (de_var 0 (pv 0)) (da_cons (de_var 1 (pv 1)) (da_cons (de_var 2 (pv 2)) (da_cons (de_t1 call_tuple_of co_tuple rfl T.tuple boot_tuple' (DE.c (de_var 3 (pv 3)))) (da_cons (de_t1 call_tuple_of co_tuple rfl T.tuple boot_tuple' (DE.c (de_var 4 (pv 4)))) da_nil))))))) da_nil)))))
theorem sc_level_of : FnScope N_level_of ["record"] (defScope s_level_of) := ⟨rfl, rfl, rfl, by decide +kernel, rfl, by decide +kernel, by decide +kernel⟩
theorem ok_level_of {f : Addr} {fd : FuncData} (T : Txt P w K mg base) (F : FunD K "level_of" "level_of" (defArgs s_level_of) (defBody s_level_of) (defScope s_level_of) [] [] f fd) (hm : mg "level_of" = some (.ref f))
     :
    Cal P w K mg base "level_of" ["record"] 1 (spP K fn_level_of) :=
  cal_of F hm sc_level_of (F.bindsN fun _ _ _ _ _ _ us hl => match us, hl with | [_], _ => rfl) fun cdv A outer s H E (hr : Room 0 _) =>
  (dss_cons
  (ds_if (dt_cmp (op_eqX hr) os_eq (de_ix hr (DE.c (de_var 0 (pv 0))) (DE.c de_int) (fun _ _ => rfl)) de_str (nomark _)) (dss_one (ds_ret (DE.m de_int))) dss_nil)
  (dss_cons
  (ds_if (dt_cmp (op_eqX hr) os_eq (de_ix hr (DE.c (de_var 0 (pv 0))) (DE.c de_int) (fun _ _ => rfl)) de_str (nomark _)) (dss_one (ds_ret (DE.m (de_ix hr (DE.c (de_var 0 (pv 0))) (DE.c de_int) (fun _ _ => rfl))))) dss_nil)
  (dss_one (ds_ret (DE.m (de_ng de_int))))))
theorem sc_bounds_of : FnScope N_bounds_of ["record"] (defScope s_bounds_of) := ⟨rfl, rfl, rfl, by decide +kernel, rfl, by decide +kernel, by decide +kernel⟩
theorem ok_bounds_of {f : Addr} {fd : FuncData} (T : Txt P w K mg base) (F : FunD K "bounds_of" "bounds_of" (defArgs s_bounds_of) (defBody s_bounds_of) (defScope s_bounds_of) [] [] f fd) (hm : mg "bounds_of" = some (.ref f))
     :
    Cal P w K mg base "bounds_of" ["record"] 1 (spP K fn_bounds_of) :=
  cal_of F hm sc_bounds_of (F.bindsN fun _ _ _ _ _ _ us hl => match us, hl with | [_], _ => rfl) fun cdv A outer s H E (hr : Room 0 _) =>
  (dss_cons
  (ds_if (dt_cmp (op_eqX hr) os_eq (de_ix hr (DE.c (de_var 0 (pv 0))) (DE.c de_int) (fun _ _ => rfl)) de_str (nomark _)) (dss_one (ds_ret (DE.m (de_tup (da_cons (de_ix hr (DE.c (de_var 0 (pv 0))) (DE.c de_int) (fun _ _ => rfl)) (da_cons (de_ix hr (DE.c (de_var 0 (pv 0))) (DE.c de_int) (fun _ _ => rfl)) da_nil)))))) dss_nil)
  (dss_one (ds_ret (DE.m (de_tup (da_cons (de_ix hr (DE.c (de_var 0 (pv 0))) (DE.c de_int) (fun _ _ => rfl)) (da_cons (de_ix hr (DE.c (de_var 0 (pv 0))) (DE.c de_int) (fun _ _ => rfl)) da_nil)))))))
theorem sc_size_of : FnScope N_size_of ["record"] (defScope s_size_of) := ⟨rfl, rfl, rfl, by decide +kernel, rfl, by decide +kernel, by decide +kernel⟩
theorem ok_size_of {f : Addr} {fd : FuncData} (T : Txt P w K mg base) (F : FunD K "size_of" "size_of" (defArgs s_size_of) (defBody s_size_of) (defScope s_size_of) [] [] f fd) (hm : mg "size_of" = some (.ref f))
     :
    Cal P w K mg base "size_of" ["record"] 1 (spP K fn_size_of) :=
  cal_of F hm sc_size_of (F.bindsN fun _ _ _ _ _ _ us hl => match us, hl with | [_], _ => rfl) fun cdv A outer s H E (hr : Room 0 _) =>
  (dss_one (ds_ret (DE.m (de_b1 call_len_seq co_len rfl T.len boot_len' (DE.c (de_ix hr (DE.c (de_var 0 (pv 0))) (DE.c (de_ng de_int)) (fun _ _ => rfl)))))))
theorem sc_value_in : FnScope N_value_in ["record", "key"] (defScope s_value_in) := ⟨rfl, rfl, rfl, by decide +kernel, rfl, by decide +kernel, by decide +kernel⟩
theorem ok_value_in {f : Addr} {fd : FuncData} (T : Txt P w K mg base) (F : FunD K "value_in" "value_in" (defArgs s_value_in) (defBody s_value_in) (defScope s_value_in) [] [] f fd) (hm : mg "value_in" = some (.ref f))
     :
    Cal P w K mg base "value_in" ["record", "key"] 1 (spP K fn_value_in) :=
  cal_of F hm sc_value_in (F.bindsN fun _ _ _ _ _ _ us hl => match us, hl with | [_, _], _ => rfl) fun cdv A outer s H E (hr : Room 0 _) =>
  (dss_cons
  (ds_for PassesOwn.never rfl (di_r1 rfl T.range (de_b1 call_len_seq co_len rfl T.len boot_len' (DE.c (de_ix hr (DE.c (de_var 0 (pv 0))) (DE.c de_int) (fun _ _ => rfl))))) (pg_name (i := 2) sc_value_in.nd rfl (by first | exact Or.inl rfl | exact Or.inr rfl)) (tg_name 2) (dss_one (ds_if (dt_cmp (op_eqX hr) os_eq (de_ix hr (DE.c (de_ix hr (DE.c (de_var 0 (pv 0))) (DE.c de_int) (fun _ _ => rfl))) (DE.c (de_var 2 (pv 2))) (fun _ _ => rfl)) (de_var 1 (pv 1)) (nomark _)) (dss_one (ds_ret (DE.m (de_ix hr (DE.c (de_ix hr (DE.c (de_var 0 (pv 0))) (DE.c de_int) (fun _ _ => rfl))) (DE.c (de_var 2 (pv 2))) (fun _ _ => rfl))))) dss_nil)))
  (dss_one (ds_ret (DE.m de_non))))
theorem sc_place_of : FnScope N_place_of ["keys", "key"] (defScope s_place_of) := ⟨rfl, rfl, rfl, by decide +kernel, rfl, by decide +kernel, by decide +kernel⟩
theorem ok_place_of {f : Addr} {fd : FuncData} (T : Txt P w K mg base) (F : FunD K "place_of" "place_of" (defArgs s_place_of) (defBody s_place_of) (defScope s_place_of) [] [] f fd) (hm : mg "place_of" = some (.ref f))
     :
    Cal P w K mg base "place_of" ["keys", "key"] 1 (spP K fn_place_of) :=
  cal_of F hm sc_place_of (F.bindsN fun _ _ _ _ _ _ us hl => match us, hl with | [_, _], _ => rfl) fun cdv A outer s H E (hr : Room 0 _) =>
  (dss_one (ds_ret (DE.m (de_b1 call_len_seq co_len rfl T.len boot_len' (DE.c (de_lc rfl sc_place_of.nd (di_tup (de_var 0 (pv 0))) (blkOk_by (own := [("one", 2)]) (N := N_place_of) (sc := defScope s_place_of) (by decide +kernel)) (fun _ _ _ _ _ => pg_name (i := 2) sc_place_of.nd rfl (Or.inl rfl)) (fun _ _ _ _ _ => dts_one (dt_cmp op_lt os_lt (de_var 2 (pv 2)) (de_var 1 (pv 1)) (nomark _))) (fun _ _ _ _ _ => (de_var 2 (pv 2)))))))))
theorem sc_child_bounds : FnScope N_child_bounds ["record", "index"] (defScope s_child_bounds) := ⟨rfl, rfl, rfl, by decide +kernel, rfl, by decide +kernel, by decide +kernel⟩
theorem ok_child_bounds {f : Addr} {fd : FuncData} (T : Txt P w K mg base) (F : FunD K "child_bounds" "child_bounds" (defArgs s_child_bounds) (defBody s_child_bounds) (defScope s_child_bounds) [] [] f fd) (hm : mg "child_bounds" = some (.ref f))
     :
    Cal P w K mg base "child_bounds" ["record", "index"] 1 (spP K fn_child_bounds) :=
  cal_of F hm sc_child_bounds (F.bindsN fun _ _ _ _ _ _ us hl => match us, hl with | [_, _], _ => rfl) fun cdv A outer s H E (hr : Room 0 _) =>
  (dss_cons
  (ds_par3 (i := 2) (j := 3) (n := 4) rfl sc_child_bounds.nd rfl rfl rfl (by decide) (by decide) (by decide) rfl rfl rfl (da_cons (de_ix hr (DE.c (de_var 0 (pv 0))) (DE.c de_int) (fun _ _ => rfl)) (da_cons (de_ix hr (DE.c (de_var 0 (pv 0))) (DE.c de_int) (fun _ _ => rfl)) (da_cons (de_ix hr (DE.c (de_var 0 (pv 0))) (DE.c de_int) (fun _ _ => rfl)) da_nil))) (by rfl))
  (dss_cons
  (ds_if (dt_cmp op_gt os_gt (de_var 1 (pv 1)) de_int (nomark _)) (dss_one (ds_set (i := 2) sc_child_bounds.nd rfl (by first | exact Or.inl rfl | exact Or.inr rfl) (DE.m (de_ix hr (DE.c (de_var 4 (pv 4))) (DE.c (de_bin op_sub os_sub (de_var 1 (pv 1)) de_int)) (fun _ _ => rfl))))) dss_nil)
  (dss_cons
  (ds_if (dt_cmp op_lt os_lt (de_var 1 (pv 1)) (de_b1 call_len_seq co_len rfl T.len boot_len' (DE.c (de_var 4 (pv 4)))) (nomark _)) (dss_one (ds_set (i := 3) sc_child_bounds.nd rfl (by first | exact Or.inl rfl | exact Or.inr rfl) (DE.m (de_ix hr (DE.c (de_var 4 (pv 4))) (DE.c (de_var 1 (pv 1))) (fun _ _ => rfl))))) dss_nil)
  (dss_one (ds_ret (DE.m (de_tup (da_cons (de_var 2 (pv 2)) (da_cons (de_var 3 (pv 3)) da_nil)))))))))
theorem sc_with_value : FnScope N_with_value ["record", "key", "value"] (defScope s_with_value) := ⟨rfl, rfl, rfl, by decide +kernel, rfl, by decide +kernel, by decide +kernel⟩
theorem ok_with_value {f : Addr} {fd : FuncData} (T : Txt P w K mg base) (F : FunD K "with_value" "with_value" (defArgs s_with_value) (defBody s_with_value) (defScope s_with_value) [] [] f fd) (hm : mg "with_value" = some (.ref f))
    (c_place_of : Cal P w K mg base "place_of" ["keys", "key"] 1 (spP K fn_place_of))
    (c_leaf : Cal P w K mg base "leaf" ["low", "high", "keys", "values"] 6 (spP K fn_leaf)) :
    Cal P w K mg base "with_value" ["record", "key", "value"] 7 (spP K fn_with_value) :=
  cal_of F hm sc_with_value (F.bindsN fun _ _ _ _ _ _ us hl => match us, hl with | [_, _, _], _ => rfl) fun cdv A outer s H E (hr : Room 6 _) =>
  (dss_cons
  (ds_un (is := [3, 4, 5, 6]) rfl (DE.m (de_sl (de_var 0 (pv 0)) (do_some de_int) do_none)) (dg_cons (pg_name (i := 3) sc_with_value.nd rfl (by first | exact Or.inl rfl | exact Or.inr rfl)) (dg_cons (pg_name (i := 4) sc_with_value.nd rfl (by first | exact Or.inl rfl | exact Or.inr rfl)) (dg_cons (pg_name (i := 5) sc_with_value.nd rfl (by first | exact Or.inl rfl | exact Or.inr rfl)) (dg_cons (pg_name (i := 6) sc_with_value.nd rfl (by first | exact Or.inl rfl | exact Or.inr rfl)) dg_nil)))))
  (dss_cons
  (ds_set (i := 7) sc_with_value.nd rfl (by first | exact Or.inl rfl | exact Or.inr rfl) (DE.m (de_call c_place_of hr (by decide) rfl (da_cons (de_var 5 (pv 5)) (da_cons (de_var 1 (pv 1)) da_nil)))))
  (dss_cons
  (ds_set (i := 8) sc_with_value.nd rfl (by first | exact Or.inl rfl | exact Or.inr rfl) (DE.m (de_var 7 (pv 7))))
  (dss_cons
  (ds_if (dt_w (dw_and (dt_cmp op_lt os_lt (de_var 7 (pv 7)) (de_b1 call_len_seq co_len rfl T.len boot_len' (DE.c (de_var 5 (pv 5)))) (nomark _)) (dw_and1 (dt_cmp (op_eqX hr) os_eq (de_ix hr (DE.c (de_var 5 (pv 5))) (DE.c (de_var 7 (pv 7))) (fun _ _ => rfl)) (de_var 1 (pv 1)) (nomark _))))) (dss_one (ds_set (i := 8) sc_with_value.nd rfl (by first | exact Or.inl rfl | exact Or.inr rfl) (DE.m (de_bin op_addD os_add (de_var 7 (pv 7)) de_int)))) dss_nil)
  (dss_cons
  (ds_set (i := 5) sc_with_value.nd rfl (by first | exact Or.inl rfl | exact Or.inr rfl) (DE.m (de_bin op_addD os_add (de_bin op_addD os_add (de_sl (de_var 5 (pv 5)) do_none (do_some (de_var 7 (pv 7)))) (de_tup (da_cons (de_var 1 (pv 1)) da_nil))) (de_sl (de_var 5 (pv 5)) (do_some (de_var 8 (pv 8))) do_none))))
  (dss_cons
  (ds_set (i := 6) sc_with_value.nd rfl (by first | exact Or.inl rfl | exact Or.inr rfl) (DE.m (de_bin op_addD os_add (de_bin op_addD os_add (de_sl (de_var 6 (pv 6)) do_none (do_some (de_var 7 (pv 7)))) (de_tup (da_cons (de_var 2 (pv 2)) da_nil))) (de_sl (de_var 6 (pv 6)) (do_some (de_var 8 (pv 8))) do_none))))
  (dss_one (ds_ret (DE.m (de_call c_leaf hr (by decide) rfl (da_cons (de_var 3 (pv 3)) (da_cons (de_var 4 (pv 4)) (da_cons (de_var 5 (pv 5)) (da_cons (de_var 6 (pv 6)) da_nil))))))))))))))
theorem sc_without_key : FnScope N_without_key ["record", "key"] (defScope s_without_key) := ⟨rfl, rfl, rfl, by decide +kernel, rfl, by decide +kernel, by decide +kernel⟩
theorem ok_without_key {f : Addr} {fd : FuncData} (T : Txt P w K mg base) (F : FunD K "without_key" "without_key" (defArgs s_without_key) (defBody s_without_key) (defScope s_without_key) [] [] f fd) (hm : mg "without_key" = some (.ref f))
    (c_place_of : Cal P w K mg base "place_of" ["keys", "key"] 1 (spP K fn_place_of))
    (c_leaf : Cal P w K mg base "leaf" ["low", "high", "keys", "values"] 6 (spP K fn_leaf)) :
    Cal P w K mg base "without_key" ["record", "key"] 7 (spP K fn_without_key) :=
  cal_of F hm sc_without_key (F.bindsN fun _ _ _ _ _ _ us hl => match us, hl with | [_, _], _ => rfl) fun cdv A outer s H E (hr : Room 6 _) =>
  (dss_cons
  (ds_un (is := [2, 3, 4, 5]) rfl (DE.m (de_sl (de_var 0 (pv 0)) (do_some de_int) do_none)) (dg_cons (pg_name (i := 2) sc_without_key.nd rfl (by first | exact Or.inl rfl | exact Or.inr rfl)) (dg_cons (pg_name (i := 3) sc_without_key.nd rfl (by first | exact Or.inl rfl | exact Or.inr rfl)) (dg_cons (pg_name (i := 4) sc_without_key.nd rfl (by first | exact Or.inl rfl | exact Or.inr rfl)) (dg_cons (pg_name (i := 5) sc_without_key.nd rfl (by first | exact Or.inl rfl | exact Or.inr rfl)) dg_nil)))))
  (dss_cons
  (ds_set (i := 6) sc_without_key.nd rfl (by first | exact Or.inl rfl | exact Or.inr rfl) (DE.m (de_call c_place_of hr (by decide) rfl (da_cons (de_var 4 (pv 4)) (da_cons (de_var 1 (pv 1)) da_nil)))))
  (dss_one (ds_ret (DE.m (de_call c_leaf hr (by decide) rfl (da_cons (de_var 2 (pv 2)) (da_cons (de_var 3 (pv 3)) (da_cons (de_bin op_addD os_add (de_sl (de_var 4 (pv 4)) do_none (do_some (de_var 6 (pv 6)))) (de_sl (de_var 4 (pv 4)) (do_some (de_bin op_addD os_add (de_var 6 (pv 6)) de_int)) do_none)) (da_cons (de_bin op_addD os_add (de_sl (de_var 5 (pv 5)) do_none (do_some (de_var 6 (pv 6)))) (de_sl (de_var 5 (pv 5)) (do_some (de_bin op_addD os_add (de_var 6 (pv 6)) de_int)) do_none)) da_nil))))))))))
end
end K32
end
section
set_option Elab.async false
set_option linter.all false
set_option maxRecDepth 100000
set_option maxHeartbeats 4000000
namespace K32
open PySem PySem.Spec PyProof.Rows L2
/-! the defs walked, printed by gen.py -/
section
variable {P : Program} {w : World} {K : PySem.W.Frag} {mg : Str → Option Value} {base : Heap}
theorem sc_with_child : FnScope N_with_child ["record", "index", "separator", "page"] (defScope s_with_child) := ⟨rfl, rfl, rfl, by decide +kernel, rfl, by decide +kernel, by decide +kernel⟩
theorem ok_with_child {f : Addr} {fd : FuncData} (T : Txt P w K mg base) (F : FunD K "with_child" "with_child" (defArgs s_with_child) (defBody s_with_child) (defScope s_with_child) [] [] f fd) (hm : mg "with_child" = some (.ref f))
    (c_inner : Cal P w K mg base "inner" ["level", "low", "high", "keys", "pages"] 6 (spP K fn_inner)) :
    Cal P w K mg base "with_child" ["record", "index", "separator", "page"] 7 (spP K fn_with_child) :=
  cal_of F hm sc_with_child (F.bindsN fun _ _ _ _ _ _ us hl => match us, hl with | [_, _, _, _], _ => rfl) fun cdv A outer s H E (hr : Room 6 _) =>
  (dss_cons
  (ds_un (is := [4, 5, 6, 7, 8]) rfl (DE.m (de_sl (de_var 0 (pv 0)) (do_some de_int) do_none)) (dg_cons (pg_name (i := 4) sc_with_child.nd rfl (by first | exact Or.inl rfl | exact Or.inr rfl)) (dg_cons (pg_name (i := 5) sc_with_child.nd rfl (by first | exact Or.inl rfl | exact Or.inr rfl)) (dg_cons (pg_name (i := 6) sc_with_child.nd rfl (by first | exact Or.inl rfl | exact Or.inr rfl)) (dg_cons (pg_name (i := 7) sc_with_child.nd rfl (by first | exact Or.inl rfl | exact Or.inr rfl)) (dg_cons (pg_name (i := 8) sc_with_child.nd rfl (by first | exact Or.inl rfl | exact Or.inr rfl)) dg_nil))))))
  (dss_cons
  (ds_set (i := 7) sc_with_child.nd rfl (by first | exact Or.inl rfl | exact Or.inr rfl) (DE.m (de_bin op_addD os_add (de_bin op_addD os_add (de_sl (de_var 7 (pv 7)) do_none (do_some (de_var 1 (pv 1)))) (de_tup (da_cons (de_var 2 (pv 2)) da_nil))) (de_sl (de_var 7 (pv 7)) (do_some (de_var 1 (pv 1))) do_none))))
  (dss_cons
  (ds_set (i := 8) sc_with_child.nd rfl (by first | exact Or.inl rfl | exact Or.inr rfl) (DE.m (de_bin op_addD os_add (de_bin op_addD os_add (de_sl (de_var 8 (pv 8)) do_none (do_some (de_bin op_addD os_add (de_var 1 (pv 1)) de_int))) (de_tup (da_cons (de_var 3 (pv 3)) da_nil))) (de_sl (de_var 8 (pv 8)) (do_some (de_bin op_addD os_add (de_var 1 (pv 1)) de_int)) do_none))))
  (dss_one (ds_ret (DE.m (de_call c_inner hr (by decide) rfl (da_cons (de_var 4 (pv 4)) (da_cons (de_var 5 (pv 5)) (da_cons (de_var 6 (pv 6)) (da_cons (de_var 7 (pv 7)) (da_cons (de_var 8 (pv 8)) da_nil))))))))))))
theorem sc_without_child : FnScope N_without_child ["record", "index"] (defScope s_without_child) := ⟨rfl, rfl, rfl, by decide +kernel, rfl, by decide +kernel, by decide +kernel⟩
theorem ok_without_child {f : Addr} {fd : FuncData} (T : Txt P w K mg base) (F : FunD K "without_child" "without_child" (defArgs s_without_child) (defBody s_without_child) (defScope s_without_child) [] [] f fd) (hm : mg "without_child" = some (.ref f))
    (c_inner : Cal P w K mg base "inner" ["level", "low", "high", "keys", "pages"] 6 (spP K fn_inner)) :
    Cal P w K mg base "without_child" ["record", "index"] 7 (spP K fn_without_child) :=
  cal_of F hm sc_without_child (F.bindsN fun _ _ _ _ _ _ us hl => match us, hl with | [_, _], _ => rfl) fun cdv A outer s H E (hr : Room 6 _) =>
  (dss_cons
  (ds_un (is := [2, 3, 4, 5, 6]) rfl (DE.m (de_sl (de_var 0 (pv 0)) (do_some de_int) do_none)) (dg_cons (pg_name (i := 2) sc_without_child.nd rfl (by first | exact Or.inl rfl | exact Or.inr rfl)) (dg_cons (pg_name (i := 3) sc_without_child.nd rfl (by first | exact Or.inl rfl | exact Or.inr rfl)) (dg_cons (pg_name (i := 4) sc_without_child.nd rfl (by first | exact Or.inl rfl | exact Or.inr rfl)) (dg_cons (pg_name (i := 5) sc_without_child.nd rfl (by first | exact Or.inl rfl | exact Or.inr rfl)) (dg_cons (pg_name (i := 6) sc_without_child.nd rfl (by first | exact Or.inl rfl | exact Or.inr rfl)) dg_nil))))))
  (dss_cons
  (ds_set (i := 5) sc_without_child.nd rfl (by first | exact Or.inl rfl | exact Or.inr rfl) (DE.m (de_bin op_addD os_add (de_sl (de_var 5 (pv 5)) do_none (do_some (de_bin op_sub os_sub (de_var 1 (pv 1)) de_int))) (de_sl (de_var 5 (pv 5)) (do_some (de_var 1 (pv 1))) do_none))))
  (dss_one (ds_ret (DE.m (de_call c_inner hr (by decide) rfl (da_cons (de_var 2 (pv 2)) (da_cons (de_var 3 (pv 3)) (da_cons (de_var 4 (pv 4)) (da_cons (de_var 5 (pv 5)) (da_cons (de_bin op_addD os_add (de_sl (de_var 6 (pv 6)) do_none (do_some (de_var 1 (pv 1)))) (de_sl (de_var 6 (pv 6)) (do_some (de_bin op_addD os_add (de_var 1 (pv 1)) de_int)) do_none)) da_nil)))))))))))
theorem sc_with_separator : FnScope N_with_separator ["record", "index", "separator"] (defScope s_with_separator) := ⟨rfl, rfl, rfl, by decide +kernel, rfl, by decide +kernel, by decide +kernel⟩
theorem ok_with_separator {f : Addr} {fd : FuncData} (T : Txt P w K mg base) (F : FunD K "with_separator" "with_separator" (defArgs s_with_separator) (defBody s_with_separator) (defScope s_with_separator) [] [] f fd) (hm : mg "with_separator" = some (.ref f))
    (c_inner : Cal P w K mg base "inner" ["level", "low", "high", "keys", "pages"] 6 (spP K fn_inner)) :
    Cal P w K mg base "with_separator" ["record", "index", "separator"] 7 (spP K fn_with_separator) :=
  cal_of F hm sc_with_separator (F.bindsN fun _ _ _ _ _ _ us hl => match us, hl with | [_, _, _], _ => rfl) fun cdv A outer s H E (hr : Room 6 _) =>
  (dss_cons
  (ds_un (is := [3, 4, 5, 6, 7]) rfl (DE.m (de_sl (de_var 0 (pv 0)) (do_some de_int) do_none)) (dg_cons (pg_name (i := 3) sc_with_separator.nd rfl (by first | exact Or.inl rfl | exact Or.inr rfl)) (dg_cons (pg_name (i := 4) sc_with_separator.nd rfl (by first | exact Or.inl rfl | exact Or.inr rfl)) (dg_cons (pg_name (i := 5) sc_with_separator.nd rfl (by first | exact Or.inl rfl | exact Or.inr rfl)) (dg_cons (pg_name (i := 6) sc_with_separator.nd rfl (by first | exact Or.inl rfl | exact Or.inr rfl)) (dg_cons (pg_name (i := 7) sc_with_separator.nd rfl (by first | exact Or.inl rfl | exact Or.inr rfl)) dg_nil))))))
  (dss_one (ds_ret (DE.m (de_call c_inner hr (by decide) rfl (da_cons (de_var 3 (pv 3)) (da_cons (de_var 4 (pv 4)) (da_cons (de_var 5 (pv 5)) (da_cons (de_bin op_addD os_add (de_bin op_addD os_add (de_sl (de_var 6 (pv 6)) do_none (do_some (de_bin op_sub os_sub (de_var 1 (pv 1)) de_int))) (de_tup (da_cons (de_var 2 (pv 2)) da_nil))) (de_sl (de_var 6 (pv 6)) (do_some (de_var 1 (pv 1))) do_none)) (da_cons (de_var 7 (pv 7)) da_nil))))))))))
theorem sc_cut : FnScope N_cut ["record"] (defScope s_cut) := ⟨rfl, rfl, rfl, by decide +kernel, rfl, by decide +kernel, by decide +kernel⟩
theorem ok_cut {f : Addr} {fd : FuncData} (T : Txt P w K mg base) (F : FunD K "cut" "cut" (defArgs s_cut) (defBody s_cut) (defScope s_cut) [] [] f fd) (hm : mg "cut" = some (.ref f))
    (c_inner : Cal P w K mg base "inner" ["level", "low", "high", "keys", "pages"] 6 (spP K fn_inner))
    (c_leaf : Cal P w K mg base "leaf" ["low", "high", "keys", "values"] 6 (spP K fn_leaf))
    (c_size_of : Cal P w K mg base "size_of" ["record"] 1 (spP K fn_size_of)) :
    Cal P w K mg base "cut" ["record"] 7 (spP K fn_cut) :=
  cal_of F hm sc_cut (F.bindsN fun _ _ _ _ _ _ us hl => match us, hl with | [_], _ => rfl) fun cdv A outer s H E (hr : Room 6 _) =>
  (dss_cons
  (ds_set (i := 1) sc_cut.nd rfl (by first | exact Or.inl rfl | exact Or.inr rfl) (DE.m (de_bin op_fdiv os_div (de_bin op_addD os_add (de_call c_size_of hr (by decide) rfl (da_cons (de_var 0 (pv 0)) da_nil)) de_int) de_int)))
  (dss_cons
  (ds_if (dt_cmp (op_eqX hr) os_eq (de_ix hr (DE.c (de_var 0 (pv 0))) (DE.c de_int) (fun _ _ => rfl)) de_str (nomark _)) (dss_cons
  (ds_un (is := [2, 3, 4, 5]) rfl (DE.m (de_sl (de_var 0 (pv 0)) (do_some de_int) do_none)) (dg_cons (pg_name (i := 2) sc_cut.nd rfl (by first | exact Or.inl rfl | exact Or.inr rfl)) (dg_cons (pg_name (i := 3) sc_cut.nd rfl (by first | exact Or.inl rfl | exact Or.inr rfl)) (dg_cons (pg_name (i := 4) sc_cut.nd rfl (by first | exact Or.inl rfl | exact Or.inr rfl)) (dg_cons (pg_name (i := 5) sc_cut.nd rfl (by first | exact Or.inl rfl | exact Or.inr rfl)) dg_nil)))))
  (dss_cons
  (ds_set (i := 6) sc_cut.nd rfl (by first | exact Or.inl rfl | exact Or.inr rfl) (DE.m (de_call c_leaf hr (by decide) rfl (da_cons (de_var 2 (pv 2)) (da_cons (de_ix hr (DE.c (de_var 4 (pv 4))) (DE.c (de_var 1 (pv 1))) (fun _ _ => rfl)) (da_cons (de_sl (de_var 4 (pv 4)) do_none (do_some (de_var 1 (pv 1)))) (da_cons (de_sl (de_var 5 (pv 5)) do_none (do_some (de_var 1 (pv 1)))) da_nil)))))))
  (dss_one (ds_ret (DE.m (de_tup (da_cons (de_var 6 (pv 6)) (da_cons (de_ix hr (DE.c (de_var 4 (pv 4))) (DE.c (de_var 1 (pv 1))) (fun _ _ => rfl)) (da_cons (de_call c_leaf hr (by decide) rfl (da_cons (de_ix hr (DE.c (de_var 4 (pv 4))) (DE.c (de_var 1 (pv 1))) (fun _ _ => rfl)) (da_cons (de_var 3 (pv 3)) (da_cons (de_sl (de_var 4 (pv 4)) (do_some (de_var 1 (pv 1))) do_none) (da_cons (de_sl (de_var 5 (pv 5)) (do_some (de_var 1 (pv 1))) do_none) da_nil))))) da_nil))))))))) dss_nil)
  (dss_cons
  (ds_un (is := [7, 2, 3, 4, 8]) rfl (DE.m (de_sl (de_var 0 (pv 0)) (do_some de_int) do_none)) (dg_cons (pg_name (i := 7) sc_cut.nd rfl (by first | exact Or.inl rfl | exact Or.inr rfl)) (dg_cons (pg_name (i := 2) sc_cut.nd rfl (by first | exact Or.inl rfl | exact Or.inr rfl)) (dg_cons (pg_name (i := 3) sc_cut.nd rfl (by first | exact Or.inl rfl | exact Or.inr rfl)) (dg_cons (pg_name (i := 4) sc_cut.nd rfl (by first | exact Or.inl rfl | exact Or.inr rfl)) (dg_cons (pg_name (i := 8) sc_cut.nd rfl (by first | exact Or.inl rfl | exact Or.inr rfl)) dg_nil))))))
  (dss_cons
  (ds_set (i := 9) sc_cut.nd rfl (by first | exact Or.inl rfl | exact Or.inr rfl) (DE.m (de_ix hr (DE.c (de_var 4 (pv 4))) (DE.c (de_bin op_sub os_sub (de_var 1 (pv 1)) de_int)) (fun _ _ => rfl))))
  (dss_cons
  (ds_set (i := 6) sc_cut.nd rfl (by first | exact Or.inl rfl | exact Or.inr rfl) (DE.m (de_call c_inner hr (by decide) rfl (da_cons (de_var 7 (pv 7)) (da_cons (de_var 2 (pv 2)) (da_cons (de_var 9 (pv 9)) (da_cons (de_sl (de_var 4 (pv 4)) do_none (do_some (de_bin op_sub os_sub (de_var 1 (pv 1)) de_int))) (da_cons (de_sl (de_var 8 (pv 8)) do_none (do_some (de_var 1 (pv 1)))) da_nil))))))))
  (dss_one (ds_ret (DE.m (de_tup (da_cons (de_var 6 (pv 6)) (da_cons (de_var 9 (pv 9)) (da_cons (de_call c_inner hr (by decide) rfl (da_cons (de_var 7 (pv 7)) (da_cons (de_var 9 (pv 9)) (da_cons (de_var 3 (pv 3)) (da_cons (de_sl (de_var 4 (pv 4)) (do_some (de_var 1 (pv 1))) do_none) (da_cons (de_sl (de_var 8 (pv 8)) (do_some (de_var 1 (pv 1))) do_none) da_nil)))))) da_nil))))))))))))
theorem sc_joined : FnScope N_joined ["first", "separator", "second"] (defScope s_joined) := ⟨rfl, rfl, rfl, by decide +kernel, rfl, by decide +kernel, by decide +kernel⟩
theorem ok_joined {f : Addr} {fd : FuncData} (T : Txt P w K mg base) (F : FunD K "joined" "joined" (defArgs s_joined) (defBody s_joined) (defScope s_joined) [] [] f fd) (hm : mg "joined" = some (.ref f))
    (c_inner : Cal P w K mg base "inner" ["level", "low", "high", "keys", "pages"] 6 (spP K fn_inner))
    (c_bounds_of : Cal P w K mg base "bounds_of" ["record"] 1 (spP K fn_bounds_of))
    (c_leaf : Cal P w K mg base "leaf" ["low", "high", "keys", "values"] 6 (spP K fn_leaf)) :
    Cal P w K mg base "joined" ["first", "separator", "second"] 7 (spP K fn_joined) :=
  cal_of F hm sc_joined (F.bindsN fun _ _ _ _ _ _ us hl => match us, hl with | [_, _, _], _ => rfl) fun cdv A outer s H E (hr : Room 6 _) =>
  (dss_cons
  (ds_set (i := 3) sc_joined.nd rfl (by first | exact Or.inl rfl | exact Or.inr rfl) (DE.m (de_ix hr (DE.c (de_call c_bounds_of hr (by decide) rfl (da_cons (de_var 0 (pv 0)) da_nil))) (DE.c de_int) (fun _ _ => rfl))))
  (dss_cons
  (ds_set (i := 4) sc_joined.nd rfl (by first | exact Or.inl rfl | exact Or.inr rfl) (DE.m (de_ix hr (DE.c (de_call c_bounds_of hr (by decide) rfl (da_cons (de_var 2 (pv 2)) da_nil))) (DE.c de_int) (fun _ _ => rfl))))
  (dss_cons
  (ds_if (dt_cmp (op_eqX hr) os_eq (de_ix hr (DE.c (de_var 0 (pv 0))) (DE.c de_int) (fun _ _ => rfl)) de_str (nomark _)) (dss_one (ds_ret (DE.m (de_call c_leaf hr (by decide) rfl (da_cons (de_var 3 (pv 3)) (da_cons (de_var 4 (pv 4)) (da_cons (de_bin op_addD os_add (de_ix hr (DE.c (de_var 0 (pv 0))) (DE.c de_int) (fun _ _ => rfl)) (de_ix hr (DE.c (de_var 2 (pv 2))) (DE.c de_int) (fun _ _ => rfl))) (da_cons (de_bin op_addD os_add (de_ix hr (DE.c (de_var 0 (pv 0))) (DE.c de_int) (fun _ _ => rfl)) (de_ix hr (DE.c (de_var 2 (pv 2))) (DE.c de_int) (fun _ _ => rfl))) da_nil)))))))) dss_nil)
  (dss_cons
  (ds_set (i := 5) sc_joined.nd rfl (by first | exact Or.inl rfl | exact Or.inr rfl) (DE.m (de_bin op_addD os_add (de_bin op_addD os_add (de_ix hr (DE.c (de_var 0 (pv 0))) (DE.c de_int) (fun _ _ => rfl)) (de_tup (da_cons (de_var 1 (pv 1)) da_nil))) (de_ix hr (DE.c (de_var 2 (pv 2))) (DE.c de_int) (fun _ _ => rfl)))))
  (dss_one (ds_ret (DE.m (de_call c_inner hr (by decide) rfl (da_cons (de_ix hr (DE.c (de_var 0 (pv 0))) (DE.c de_int) (fun _ _ => rfl)) (da_cons (de_var 3 (pv 3)) (da_cons (de_var 4 (pv 4)) (da_cons (de_var 5 (pv 5)) (da_cons (de_bin op_addD os_add (de_ix hr (DE.c (de_var 0 (pv 0))) (DE.c de_int) (fun _ _ => rfl)) (de_ix hr (DE.c (de_var 2 (pv 2))) (DE.c de_int) (fun _ _ => rfl))) da_nil)))))))))))))
theorem sc_leaf_change : FnScope N_leaf_change ["call", "record"] (defScope s_leaf_change) := ⟨rfl, rfl, rfl, by decide +kernel, rfl, by decide +kernel, by decide +kernel⟩
theorem ok_leaf_change {f : Addr} {fd : FuncData} (T : Txt P w K mg base) (F : FunD K "leaf_change" "leaf_change" (defArgs s_leaf_change) (defBody s_leaf_change) (defScope s_leaf_change) [] [] f fd) (hm : mg "leaf_change" = some (.ref f))
    (c_value_in : Cal P w K mg base "value_in" ["record", "key"] 1 (spP K fn_value_in))
    (c_with_value : Cal P w K mg base "with_value" ["record", "key", "value"] 7 (spP K fn_with_value))
    (c_without_key : Cal P w K mg base "without_key" ["record", "key"] 7 (spP K fn_without_key)) :
    Cal P w K mg base "leaf_change" ["call", "record"] 8 (spP K fn_leaf_change) :=
  cal_of F hm sc_leaf_change (F.bindsN fun _ _ _ _ _ _ us hl => match us, hl with | [_, _], _ => rfl) fun cdv A outer s H E (hr : Room 7 _) =>
  (dss_cons
  (ds_par2 (i := 2) (j := 3) rfl sc_leaf_change.nd rfl rfl (by decide) rfl rfl (da_cons (de_ix hr (DE.c (de_var 0 (pv 0))) (DE.c de_int) (fun _ _ => rfl)) (da_cons (de_ix hr (DE.c (de_var 0 (pv 0))) (DE.c de_int) (fun _ _ => rfl)) da_nil)) (by rfl))
  (dss_cons
  (ds_set (i := 4) sc_leaf_change.nd rfl (by first | exact Or.inl rfl | exact Or.inr rfl) (DE.m (de_call c_value_in hr (by decide) rfl (da_cons (de_var 1 (pv 1)) (da_cons (de_var 3 (pv 3)) da_nil)))))
  (dss_cons
  (ds_if (dt_w (dw_and (dt_cmp (op_eqX hr) os_eq (de_var 2 (pv 2)) de_str (nomark _)) (dw_and1 (dt_cmp (op_neX hr) os_ne (de_var 4 (pv 4)) (de_ix hr (DE.c (de_var 0 (pv 0))) (DE.c de_int) (fun _ _ => rfl)) (nomark _))))) (dss_one (ds_ret (DE.m (de_tup (da_cons (de_var 4 (pv 4)) (da_cons (de_call c_with_value hr (by decide) rfl (da_cons (de_var 1 (pv 1)) (da_cons (de_var 3 (pv 3)) (da_cons (de_ix hr (DE.c (de_var 0 (pv 0))) (DE.c de_int) (fun _ _ => rfl)) da_nil)))) da_nil)))))) dss_nil)
  (dss_cons
  (ds_if (dt_cmp (op_eqX hr) os_eq (de_var 2 (pv 2)) de_str (nomark _)) (dss_cons
  (ds_if (dt_cmp op_notN os_notN (de_var 4 (pv 4)) de_non (nomark _)) (dss_one (ds_ret (DE.m (de_tup (da_cons de_bl (da_cons de_non da_nil)))))) dss_nil)
  (dss_one (ds_ret (DE.m (de_tup (da_cons de_bl (da_cons (de_call c_with_value hr (by decide) rfl (da_cons (de_var 1 (pv 1)) (da_cons (de_var 3 (pv 3)) (da_cons (de_ix hr (DE.c (de_var 0 (pv 0))) (DE.c de_int) (fun _ _ => rfl)) da_nil)))) da_nil))))))) dss_nil)
  (dss_cons
  (ds_if (dt_cmp (op_eqX hr) os_eq (de_var 2 (pv 2)) de_str (nomark _)) (dss_cons
  (ds_if (dt_w (dw_or (dt_cmp op_isN os_isN (de_var 4 (pv 4)) de_non (nomark _)) (dw_or1 (dt_cmp (op_neX hr) os_ne (de_var 4 (pv 4)) (de_ix hr (DE.c (de_var 0 (pv 0))) (DE.c de_int) (fun _ _ => rfl)) (nomark _))))) (dss_one (ds_ret (DE.m (de_tup (da_cons de_bl (da_cons de_non da_nil)))))) dss_nil)
  (dss_cons
  (ds_if (dt_cmp (op_eqX hr) os_eq (de_ix hr (DE.c (de_var 0 (pv 0))) (DE.c de_int) (fun _ _ => rfl)) (de_var 4 (pv 4)) (nomark _)) (dss_one (ds_ret (DE.m (de_tup (da_cons de_bl (da_cons de_non da_nil)))))) dss_nil)
  (dss_one (ds_ret (DE.m (de_tup (da_cons de_bl (da_cons (de_call c_with_value hr (by decide) rfl (da_cons (de_var 1 (pv 1)) (da_cons (de_var 3 (pv 3)) (da_cons (de_ix hr (DE.c (de_var 0 (pv 0))) (DE.c de_int) (fun _ _ => rfl)) da_nil)))) da_nil)))))))) dss_nil)
  (dss_cons
  (ds_if (dt_w (dw_and (dt_cmp (op_eqX hr) os_eq (de_var 2 (pv 2)) de_str (nomark _)) (dw_and1 (dt_cmp op_notN os_notN (de_var 4 (pv 4)) de_non (nomark _))))) (dss_one (ds_ret (DE.m (de_tup (da_cons (de_var 4 (pv 4)) (da_cons (de_call c_without_key hr (by decide) rfl (da_cons (de_var 1 (pv 1)) (da_cons (de_var 3 (pv 3)) da_nil))) da_nil)))))) dss_nil)
  (dss_one (ds_ret (DE.m (de_tup (da_cons (de_var 4 (pv 4)) (da_cons de_non da_nil))))))))))))
theorem sc_most_of : FnScope N_most_of ["record"] (defScope s_most_of) := ⟨rfl, rfl, rfl, by decide +kernel, rfl, by decide +kernel, by decide +kernel⟩
theorem ok_most_of {f : Addr} {fd : FuncData} (T : Txt P w K mg base) (F : FunD K "most_of" "most_of" (defArgs s_most_of) (defBody s_most_of) (defScope s_most_of) [] [] f fd) (hm : mg "most_of" = some (.ref f))
    (c_level_of : Cal P w K mg base "level_of" ["record"] 1 (spP K fn_level_of)) :
    Cal P w K mg base "most_of" ["record"] 2 (spP K fn_most_of) :=
  cal_of F hm sc_most_of (F.bindsN fun _ _ _ _ _ _ us hl => match us, hl with | [_], _ => rfl) fun cdv A outer s H E (hr : Room 1 _) =>
  (dss_cons
  (ds_if (dt_cmp (op_eqX hr) os_eq (de_call c_level_of hr (by decide) rfl (da_cons (de_var 0 (pv 0)) da_nil)) de_int (nomark _)) (dss_one (ds_ret (DE.m (de_glob rfl T.leafMost)))) dss_nil)
  (dss_one (ds_ret (DE.m (de_glob rfl T.innerMost)))))
theorem sc_Draft_give : FnScope N_Draft_give ["self", "step", "record"] (defScope s_Draft_give) := ⟨rfl, rfl, rfl, by decide +kernel, rfl, by decide +kernel, by decide +kernel⟩
theorem ok_Draft_give {f : Addr} {fd : FuncData} (T : Txt P w K mg base) (F : FunD K "give" "Draft.give" (defArgs s_Draft_give) (defBody s_Draft_give) (defScope s_Draft_give) [] [] f fd) (M : Meth K (drC K) "give" f)
     :
    CalM P w K mg base "give" ["self", "step", "record"] 1 (spM K fn_Draft_give) :=
  calM_of (n := 2) (np := 2) rfl rfl F M sc_Draft_give (F.bindsN fun _ _ _ _ _ _ us hl => match us, hl with | [_, _, _], _ => rfl) fun cdv A outer s H E (hr : Room 0 _) =>
  (dss_cons
  (ds_putR 0 T.dr hr (pv 0) (de_ix hr (DE.c (de_var 1 (pv 1))) (DE.c de_int) (fun _ _ => rfl)) (de_var 2 (pv 2)))
  (dss_one (ds_putA 0 T.dr hr (pv 0) (de_ix hr (DE.c (de_var 1 (pv 1))) (DE.c de_int) (fun _ _ => rfl)) (de_ix hr (DE.c (de_var 1 (pv 1))) (DE.c de_int) (fun _ _ => rfl)))))
theorem sc_Draft_add_page : FnScope N_Draft_add_page ["self", "record"] (defScope s_Draft_add_page) := ⟨rfl, rfl, rfl, by decide +kernel, rfl, by decide +kernel, by decide +kernel⟩
theorem ok_Draft_add_page {f : Addr} {fd : FuncData} (T : Txt P w K mg base) (F : FunD K "add_page" "Draft.add_page" (defArgs s_Draft_add_page) (defBody s_Draft_add_page) (defScope s_Draft_add_page) [] [] f fd) (M : Meth K (drC K) "add_page" f)
     :
    CalM P w K mg base "add_page" ["self", "record"] 1 (spM K fn_Draft_add_page) :=
  calM_of (n := 1) (np := 1) rfl rfl F M sc_Draft_add_page (F.bindsN fun _ _ _ _ _ _ us hl => match us, hl with | [_, _], _ => rfl) fun cdv A outer s H E (hr : Room 0 _) =>
  (dss_cons
  (ds_fresh 0 T.dr (pv 0) pe_int)
  (dss_cons
  (ds_putR 0 T.dr hr (pv 0) (de_fresh 0 T.dr (pv 0)) (de_var 1 (pv 1)))
  (dss_one (ds_ret (DE.m (de_fresh 0 T.dr (pv 0)))))))
theorem sc_Draft_entries : FnScope N_Draft_entries ["self"] (defScope s_Draft_entries) := ⟨rfl, rfl, rfl, by decide +kernel, rfl, by decide +kernel, by decide +kernel⟩
theorem ok_Draft_entries {f : Addr} {fd : FuncData} (T : Txt P w K mg base) (F : FunD K "entries" "Draft.entries" (defArgs s_Draft_entries) (defBody s_Draft_entries) (defScope s_Draft_entries) [] [] f fd) (M : Meth K (drC K) "entries" f)
     :
    CalM P w K mg base "entries" ["self"] 1 (spM K fn_Draft_entries) :=
  calM_of (n := 3) (np := 0) rfl rfl F M sc_Draft_entries (F.bindsN fun _ _ _ _ _ _ us hl => match us, hl with | [_], _ => rfl) fun cdv A outer s H E (hr : Room 0 _) =>
  (dss_cons
  (ds_set (i := 1) sc_Draft_entries.nd rfl (by first | exact Or.inl rfl | exact Or.inr rfl) (DE.m (de_b1 (cr_sortedX rfl) co_sorted rfl T.sorted boot_sorted' (DE.c (de_lcK rfl sc_Draft_entries.nd (pe_recs 0 (pv 0)) (dk_recs 0 T.dr) (blkOk_by (own := [("page", 2)]) (N := N_Draft_entries) (sc := defScope s_Draft_entries) (by decide +kernel)) (fun _ _ _ _ _ => pg_name (i := 2) sc_Draft_entries.nd rfl (Or.inl rfl)) (fun _ _ _ _ _ => dts_one (dt_cmp op_ge os_ge (de_var 2 (pv 2)) de_int (nomark _))) (fun _ _ _ _ _ => (de_var 2 (pv 2))))))))
  (dss_cons
  (ds_set (i := 1) sc_Draft_entries.nd rfl (by first | exact Or.inl rfl | exact Or.inr rfl) (DE.m (de_bin op_addD os_add (de_var 1 (pv 1)) (de_lc rfl sc_Draft_entries.nd (di_r1 rfl T.range (de_ng (de_fresh 0 T.dr (pv 0)))) (blkOk_by (own := [("index", 3)]) (N := N_Draft_entries) (sc := defScope s_Draft_entries) (by decide +kernel)) (fun _ _ _ _ _ => pg_name (i := 3) sc_Draft_entries.nd rfl (Or.inl rfl)) (fun _ _ _ _ _ => dts_nil) (fun _ _ _ _ _ => (de_bin op_sub os_sub (de_ng de_int) (de_var 3 (pv 3))))))))
  (dss_one (ds_ret (DE.m (de_lc rfl sc_Draft_entries.nd (di_list (de_var 1 (pv 1))) (blkOk_by (own := [("page", 2)]) (N := N_Draft_entries) (sc := defScope s_Draft_entries) (by decide +kernel)) (fun _ _ _ _ _ => pg_name (i := 2) sc_Draft_entries.nd rfl (Or.inl rfl)) (fun _ _ _ _ _ => dts_nil) (fun _ _ _ _ _ => (de_tup (da_cons (de_var 2 (pv 2)) (da_cons (de_get1 hr (dc_adrs 0 T.dr (pv 0)) (de_var 2 (pv 2)) ⟨rfl, rfl, rfl, rfl⟩) (da_cons (de_ix hr (dc_recs 0 T.dr (pv 0)) (DE.c (de_var 2 (pv 2))) (fun _ _ => rfl)) da_nil)))))))))))
end
end K32
end
section
set_option Elab.async false
set_option linter.all false
set_option maxRecDepth 100000
set_option maxHeartbeats 4000000
namespace K32
open PySem PySem.Spec PyProof.Rows L2
/-! the defs walked, printed by gen.py -/
section
variable {P : Program} {w : World} {K : PySem.W.Frag} {mg : Str → Option Value} {base : Heap}
theorem sc_Draft_place_in_parent : FnScope N_Draft_place_in_parent ["self", "index"] (defScope s_Draft_place_in_parent) := ⟨rfl, rfl, rfl, by decide +kernel, rfl, by decide +kernel, by decide +kernel⟩
theorem ok_Draft_place_in_parent {f : Addr} {fd : FuncData} (T : Txt P w K mg base) (F : FunD K "place_in_parent" "Draft.place_in_parent" (defArgs s_Draft_place_in_parent) (defBody s_Draft_place_in_parent) (defScope s_Draft_place_in_parent) [] [] f fd) (M : Meth K (drC K) "place_in_parent" f)
    (c_size_of : Cal P w K mg base "size_of" ["record"] 1 (spP K fn_size_of))
    (c_child_bounds : Cal P w K mg base "child_bounds" ["record", "index"] 1 (spP K fn_child_bounds))
    (c_bounds_of : Cal P w K mg base "bounds_of" ["record"] 1 (spP K fn_bounds_of)) :
    CalM P w K mg base "place_in_parent" ["self", "index"] 2 (spM K fn_Draft_place_in_parent) :=
  calM_of (n := 6) (np := 1) rfl rfl F M sc_Draft_place_in_parent (F.bindsN fun _ _ _ _ _ _ us hl => match us, hl with | [_, _], _ => rfl) fun cdv A outer s H E (hr : Room 1 _) =>
  (dss_cons
  (ds_set (i := 2) sc_Draft_place_in_parent.nd rfl (by first | exact Or.inl rfl | exact Or.inr rfl) (DE.m (de_ix hr (DE.c (de_ix hr (DE.c (de_path 0 T.dr (pv 0))) (DE.c (de_bin op_sub os_sub (de_var 1 (pv 1)) de_int)) (fun _ _ => rfl))) (DE.c de_int) (fun _ _ => rfl))))
  (dss_cons
  (ds_un (is := [3, 4, 5, 4]) rfl (DE.m (de_ix hr (DE.c (de_path 0 T.dr (pv 0))) (DE.c (de_var 1 (pv 1))) (fun _ _ => rfl))) (dg_cons (pg_name (i := 3) sc_Draft_place_in_parent.nd rfl (by first | exact Or.inl rfl | exact Or.inr rfl)) (dg_cons (pg_name (i := 4) sc_Draft_place_in_parent.nd rfl (by first | exact Or.inl rfl | exact Or.inr rfl)) (dg_cons (pg_name (i := 5) sc_Draft_place_in_parent.nd rfl (by first | exact Or.inl rfl | exact Or.inr rfl)) (dg_cons (pg_name (i := 4) sc_Draft_place_in_parent.nd rfl (by first | exact Or.inl rfl | exact Or.inr rfl)) dg_nil)))))
  (dss_cons
  (ds_for PassesOwn.never rfl (di_r1 rfl T.range (de_call c_size_of hr (by decide) rfl (da_cons (de_var 2 (pv 2)) da_nil))) (pg_name (i := 6) sc_Draft_place_in_parent.nd rfl (by first | exact Or.inl rfl | exact Or.inr rfl)) (tg_name 6) (dss_one (ds_if (dt_w (dw_and (dt_cmp (op_eqX hr) os_eq (de_ix hr (DE.c (de_ix hr (DE.c (de_var 2 (pv 2))) (DE.c de_int) (fun _ _ => rfl))) (DE.c (de_var 6 (pv 6))) (fun _ _ => rfl)) (de_var 3 (pv 3)) (nomark _)) (dw_and1 (dt_cmp (op_eqX hr) os_eq (de_call c_child_bounds hr (by decide) rfl (da_cons (de_var 2 (pv 2)) (da_cons (de_var 6 (pv 6)) da_nil))) (de_call c_bounds_of hr (by decide) rfl (da_cons (de_var 5 (pv 5)) da_nil)) (nomark _))))) (dss_one (ds_ret (DE.m (de_var 6 (pv 6))))) dss_nil)))
  (dss_one (ds_ret (DE.m de_non))))))
theorem sc_Draft_divide : FnScope N_Draft_divide ["self", "index", "record"] (defScope s_Draft_divide) := ⟨rfl, rfl, rfl, by decide +kernel, rfl, by decide +kernel, by decide +kernel⟩
theorem ok_Draft_divide {f : Addr} {fd : FuncData} (T : Txt P w K mg base) (F : FunD K "divide" "Draft.divide" (defArgs s_Draft_divide) (defBody s_Draft_divide) (defScope s_Draft_divide) [] [] f fd) (M : Meth K (drC K) "divide" f)
    (c_cut : Cal P w K mg base "cut" ["record"] 7 (spP K fn_cut))
    (c_Draft_place_in_parent : CalM P w K mg base "place_in_parent" ["self", "index"] 2 (spM K fn_Draft_place_in_parent))
    (c_Draft_give : CalM P w K mg base "give" ["self", "step", "record"] 1 (spM K fn_Draft_give))
    (c_Draft_add_page : CalM P w K mg base "add_page" ["self", "record"] 1 (spM K fn_Draft_add_page))
    (c_with_child : Cal P w K mg base "with_child" ["record", "index", "separator", "page"] 7 (spP K fn_with_child))
    (c_level_of : Cal P w K mg base "level_of" ["record"] 1 (spP K fn_level_of))
    (c_inner : Cal P w K mg base "inner" ["level", "low", "high", "keys", "pages"] 6 (spP K fn_inner)) :
    CalM P w K mg base "divide" ["self", "index", "record"] 8 (spM K fn_Draft_divide) :=
  calM_of (n := 9) (np := 2) rfl rfl F M sc_Draft_divide (F.bindsN fun _ _ _ _ _ _ us hl => match us, hl with | [_, _, _], _ => rfl) fun cdv A outer s H E (hr : Room 7 _) =>
  (dss_cons
  (ds_un (is := [3, 4, 5]) rfl (DE.m (de_call c_cut hr (by decide) rfl (da_cons (de_var 2 (pv 2)) da_nil))) (dg_cons (pg_name (i := 3) sc_Draft_divide.nd rfl (by first | exact Or.inl rfl | exact Or.inr rfl)) (dg_cons (pg_name (i := 4) sc_Draft_divide.nd rfl (by first | exact Or.inl rfl | exact Or.inr rfl)) (dg_cons (pg_name (i := 5) sc_Draft_divide.nd rfl (by first | exact Or.inl rfl | exact Or.inr rfl)) dg_nil))))
  (dss_cons
  (ds_if (dt_cmp (op_eqX hr) os_eq (de_var 1 (pv 1)) de_int (nomark _)) (dss_cons
  (ds_set (i := 6) sc_Draft_divide.nd rfl (by first | exact Or.inl rfl | exact Or.inr rfl) (dm_tup (dam_cons (dm_meth T.dr c_Draft_add_page hr (by decide) (pv 0) (da_cons (de_var 3 (pv 3)) da_nil) (by decide +kernel)) (dam_cons (dm_meth T.dr c_Draft_add_page hr (by decide) (pv 0) (da_cons (de_var 5 (pv 5)) da_nil) (by decide +kernel)) dam_nil))))
  (dss_cons
  (ds_set (i := 7) sc_Draft_divide.nd rfl (by first | exact Or.inl rfl | exact Or.inr rfl) (DE.m (de_bin op_addD os_add (de_call c_level_of hr (by decide) rfl (da_cons (de_var 2 (pv 2)) da_nil)) de_int)))
  (dss_cons
  (ds_expr (dm_meth T.dr c_Draft_give hr (by decide) (pv 0) (da_cons (de_ix hr (DE.c (de_path 0 T.dr (pv 0))) (DE.c de_int) (fun _ _ => rfl)) (da_cons (de_call c_inner hr (by decide) rfl (da_cons (de_var 7 (pv 7)) (da_cons de_non (da_cons de_non (da_cons (de_tup (da_cons (de_var 4 (pv 4)) da_nil)) (da_cons (de_var 6 (pv 6)) da_nil)))))) da_nil)) (by decide +kernel)))
  (dss_one (ds_ret (DE.m (de_tup (da_cons de_str (da_cons de_non da_nil))))))))) dss_nil)
  (dss_cons
  (ds_set (i := 8) sc_Draft_divide.nd rfl (by first | exact Or.inl rfl | exact Or.inr rfl) (dm_meth T.dr c_Draft_place_in_parent hr (by decide) (pv 0) (da_cons (de_var 1 (pv 1)) da_nil) (by decide +kernel)))
  (dss_cons
  (ds_if (dt_cmp op_isN os_isN (de_var 8 (pv 8)) de_non (nomark _)) (dss_one (ds_ret (DE.m (de_tup (da_cons de_str (da_cons de_non da_nil)))))) dss_nil)
  (dss_cons
  (ds_expr (dm_meth T.dr c_Draft_give hr (by decide) (pv 0) (da_cons (de_ix hr (DE.c (de_path 0 T.dr (pv 0))) (DE.c (de_var 1 (pv 1))) (fun _ _ => rfl)) (da_cons (de_var 3 (pv 3)) da_nil)) (by decide +kernel)))
  (dss_cons
  (ds_set (i := 9) sc_Draft_divide.nd rfl (by first | exact Or.inl rfl | exact Or.inr rfl) (dm_meth T.dr c_Draft_add_page hr (by decide) (pv 0) (da_cons (de_var 5 (pv 5)) da_nil) (by decide +kernel)))
  (dss_one (ds_ret (DE.m (de_tup (da_cons de_str (da_cons (de_call c_with_child hr (by decide) rfl (da_cons (de_ix hr (DE.c (de_ix hr (DE.c (de_path 0 T.dr (pv 0))) (DE.c (de_bin op_sub os_sub (de_var 1 (pv 1)) de_int)) (fun _ _ => rfl))) (DE.c de_int) (fun _ _ => rfl)) (da_cons (de_var 8 (pv 8)) (da_cons (de_var 4 (pv 4)) (da_cons (de_var 9 (pv 9)) da_nil))))) da_nil))))))))))))
theorem sc_Draft_unite_pair : FnScope N_Draft_unite_pair ["self", "index", "place", "left", "right"] (defScope s_Draft_unite_pair) := ⟨rfl, rfl, rfl, by decide +kernel, rfl, by decide +kernel, by decide +kernel⟩
theorem ok_Draft_unite_pair {f : Addr} {fd : FuncData} (T : Txt P w K mg base) (F : FunD K "unite_pair" "Draft.unite_pair" (defArgs s_Draft_unite_pair) (defBody s_Draft_unite_pair) (defScope s_Draft_unite_pair) [] [] f fd) (M : Meth K (drC K) "unite_pair" f)
    (c_joined : Cal P w K mg base "joined" ["first", "separator", "second"] 7 (spP K fn_joined))
    (c_without_child : Cal P w K mg base "without_child" ["record", "index"] 7 (spP K fn_without_child))
    (c_Draft_give : CalM P w K mg base "give" ["self", "step", "record"] 1 (spM K fn_Draft_give))
    (c_size_of : Cal P w K mg base "size_of" ["record"] 1 (spP K fn_size_of))
    (c_most_of : Cal P w K mg base "most_of" ["record"] 2 (spP K fn_most_of))
    (c_cut : Cal P w K mg base "cut" ["record"] 7 (spP K fn_cut))
    (c_bounds_of : Cal P w K mg base "bounds_of" ["record"] 1 (spP K fn_bounds_of))
    (c_with_separator : Cal P w K mg base "with_separator" ["record", "index", "separator"] 7 (spP K fn_with_separator)) :
    CalM P w K mg base "unite_pair" ["self", "index", "place", "left", "right"] 8 (spM K fn_Draft_unite_pair) :=
  calM_of (n := 9) (np := 4) rfl rfl F M sc_Draft_unite_pair (F.bindsN fun _ _ _ _ _ _ us hl => match us, hl with | [_, _, _, _, _], _ => rfl) fun cdv A outer s H E (hr : Room 7 _) =>
  (dss_cons
  (ds_set (i := 5) sc_Draft_unite_pair.nd rfl (by first | exact Or.inl rfl | exact Or.inr rfl) (DE.m (de_ix hr (DE.c (de_ix hr (DE.c (de_path 0 T.dr (pv 0))) (DE.c (de_bin op_sub os_sub (de_var 1 (pv 1)) de_int)) (fun _ _ => rfl))) (DE.c de_int) (fun _ _ => rfl))))
  (dss_cons
  (ds_set (i := 6) sc_Draft_unite_pair.nd rfl (by first | exact Or.inl rfl | exact Or.inr rfl) (DE.m (de_call c_joined hr (by decide) rfl (da_cons (de_ix hr (DE.c (de_var 3 (pv 3))) (DE.c de_int) (fun _ _ => rfl)) (da_cons (de_ix hr (DE.c (de_call c_bounds_of hr (by decide) rfl (da_cons (de_ix hr (DE.c (de_var 4 (pv 4))) (DE.c de_int) (fun _ _ => rfl)) da_nil))) (DE.c de_int) (fun _ _ => rfl)) (da_cons (de_ix hr (DE.c (de_var 4 (pv 4))) (DE.c de_int) (fun _ _ => rfl)) da_nil))))))
  (dss_cons
  (ds_if (dt_cmp op_gt os_gt (de_call c_size_of hr (by decide) rfl (da_cons (de_var 6 (pv 6)) da_nil)) (de_call c_most_of hr (by decide) rfl (da_cons (de_var 6 (pv 6)) da_nil)) (nomark _)) (dss_cons
  (ds_un (is := [7, 8, 9]) rfl (DE.m (de_call c_cut hr (by decide) rfl (da_cons (de_var 6 (pv 6)) da_nil))) (dg_cons (pg_name (i := 7) sc_Draft_unite_pair.nd rfl (by first | exact Or.inl rfl | exact Or.inr rfl)) (dg_cons (pg_name (i := 8) sc_Draft_unite_pair.nd rfl (by first | exact Or.inl rfl | exact Or.inr rfl)) (dg_cons (pg_name (i := 9) sc_Draft_unite_pair.nd rfl (by first | exact Or.inl rfl | exact Or.inr rfl)) dg_nil))))
  (dss_cons
  (ds_expr (dm_meth T.dr c_Draft_give hr (by decide) (pv 0) (da_cons (de_ix hr (DE.c (de_var 3 (pv 3))) (DE.c de_int) (fun _ _ => rfl)) (da_cons (de_var 7 (pv 7)) da_nil)) (by decide +kernel)))
  (dss_cons
  (ds_expr (dm_meth T.dr c_Draft_give hr (by decide) (pv 0) (da_cons (de_ix hr (DE.c (de_var 4 (pv 4))) (DE.c de_int) (fun _ _ => rfl)) (da_cons (de_var 9 (pv 9)) da_nil)) (by decide +kernel)))
  (dss_one (ds_ret (DE.m (de_tup (da_cons de_str (da_cons (de_call c_with_separator hr (by decide) rfl (da_cons (de_var 5 (pv 5)) (da_cons (de_var 2 (pv 2)) (da_cons (de_var 8 (pv 8)) da_nil)))) da_nil))))))))) dss_nil)
  (dss_cons
  (ds_set (i := 5) sc_Draft_unite_pair.nd rfl (by first | exact Or.inl rfl | exact Or.inr rfl) (DE.m (de_call c_without_child hr (by decide) rfl (da_cons (de_var 5 (pv 5)) (da_cons (de_var 2 (pv 2)) da_nil)))))
  (dss_cons
  (ds_expr (dm_meth T.dr c_Draft_give hr (by decide) (pv 0) (da_cons (de_ix hr (DE.c (de_var 4 (pv 4))) (DE.c de_int) (fun _ _ => rfl)) (da_cons (de_tup (da_cons de_str (da_cons (de_ix hr (DE.c (de_ix hr (DE.c (de_var 4 (pv 4))) (DE.c de_int) (fun _ _ => rfl))) (DE.c de_int) (fun _ _ => rfl)) da_nil))) da_nil)) (by decide +kernel)))
  (dss_cons
  (ds_if (dt_w (dw_and (dt_cmp (op_eqX hr) os_eq (de_var 1 (pv 1)) de_int (nomark _)) (dw_and1 (dt_cmp (op_eqX hr) os_eq (de_call c_size_of hr (by decide) rfl (da_cons (de_var 5 (pv 5)) da_nil)) de_int (nomark _))))) (dss_cons
  (ds_expr (dm_meth T.dr c_Draft_give hr (by decide) (pv 0) (da_cons (de_ix hr (DE.c (de_var 3 (pv 3))) (DE.c de_int) (fun _ _ => rfl)) (da_cons (de_tup (da_cons de_str (da_cons (de_ix hr (DE.c (de_ix hr (DE.c (de_var 3 (pv 3))) (DE.c de_int) (fun _ _ => rfl))) (DE.c de_int) (fun _ _ => rfl)) da_nil))) da_nil)) (by decide +kernel)))
  (dss_cons
  (ds_expr (dm_meth T.dr c_Draft_give hr (by decide) (pv 0) (da_cons (de_ix hr (DE.c (de_path 0 T.dr (pv 0))) (DE.c de_int) (fun _ _ => rfl)) (da_cons (de_var 6 (pv 6)) da_nil)) (by decide +kernel)))
  (dss_one (ds_ret (DE.m (de_tup (da_cons de_str (da_cons de_non da_nil)))))))) dss_nil)
  (dss_cons
  (ds_expr (dm_meth T.dr c_Draft_give hr (by decide) (pv 0) (da_cons (de_ix hr (DE.c (de_var 3 (pv 3))) (DE.c de_int) (fun _ _ => rfl)) (da_cons (de_var 6 (pv 6)) da_nil)) (by decide +kernel)))
  (dss_one (ds_ret (DE.m (de_tup (da_cons de_str (da_cons (de_var 5 (pv 5)) da_nil)))))))))))))
theorem sc_Draft_unite : FnScope N_Draft_unite ["self", "index", "record"] (defScope s_Draft_unite) := ⟨rfl, rfl, rfl, by decide +kernel, rfl, by decide +kernel, by decide +kernel⟩
theorem ok_Draft_unite {f : Addr} {fd : FuncData} (T : Txt P w K mg base) (F : FunD K "unite" "Draft.unite" (defArgs s_Draft_unite) (defBody s_Draft_unite) (defScope s_Draft_unite) [] [] f fd) (M : Meth K (drC K) "unite" f)
    (c_Draft_place_in_parent : CalM P w K mg base "place_in_parent" ["self", "index"] 2 (spM K fn_Draft_place_in_parent))
    (c_Draft_unite_pair : CalM P w K mg base "unite_pair" ["self", "index", "place", "left", "right"] 8 (spM K fn_Draft_unite_pair))
    (c_level_of : Cal P w K mg base "level_of" ["record"] 1 (spP K fn_level_of))
    (c_bounds_of : Cal P w K mg base "bounds_of" ["record"] 1 (spP K fn_bounds_of))
    (c_child_bounds : Cal P w K mg base "child_bounds" ["record", "index"] 1 (spP K fn_child_bounds)) :
    CalM P w K mg base "unite" ["self", "index", "record"] 9 (spM K fn_Draft_unite) :=
  calM_of (n := 8) (np := 2) rfl rfl F M sc_Draft_unite (F.bindsN fun _ _ _ _ _ _ us hl => match us, hl with | [_, _, _], _ => rfl) fun cdv A outer s H E (hr : Room 8 _) =>
  (dss_cons
  (ds_set (i := 3) sc_Draft_unite.nd rfl (by first | exact Or.inl rfl | exact Or.inr rfl) (dm_meth T.dr c_Draft_place_in_parent hr (by decide) (pv 0) (da_cons (de_var 1 (pv 1)) da_nil) (by decide +kernel)))
  (dss_cons
  (ds_if (dt_cmp op_isN os_isN (de_var 3 (pv 3)) de_non (nomark _)) (dss_one (ds_ret (DE.m (de_tup (da_cons de_str (da_cons de_non da_nil)))))) dss_nil)
  (dss_cons
  (ds_set (i := 4) sc_Draft_unite.nd rfl (by first | exact Or.inl rfl | exact Or.inr rfl) (DE.m (de_ix hr (DE.c (de_ix hr (DE.c (de_path 0 T.dr (pv 0))) (DE.c (de_bin op_sub os_sub (de_var 1 (pv 1)) de_int)) (fun _ _ => rfl))) (DE.c de_int) (fun _ _ => rfl))))
  (dss_cons
  (ds_set (i := 5) sc_Draft_unite.nd rfl (by first | exact Or.inl rfl | exact Or.inr rfl) (DE.m (de_bin op_sub os_sub (de_var 3 (pv 3)) de_int)))
  (dss_cons
  (ds_if (dt_cmp (op_eqX hr) os_eq (de_var 3 (pv 3)) de_int (nomark _)) (dss_one (ds_set (i := 5) sc_Draft_unite.nd rfl (by first | exact Or.inl rfl | exact Or.inr rfl) (DE.m de_int))) dss_nil)
  (dss_cons
  (ds_set (i := 6) sc_Draft_unite.nd rfl (by first | exact Or.inl rfl | exact Or.inr rfl) (DE.m (de_ix hr (DE.c (de_ix hr (DE.c (de_var 4 (pv 4))) (DE.c de_int) (fun _ _ => rfl))) (DE.c (de_var 5 (pv 5))) (fun _ _ => rfl))))
  (dss_cons
  (ds_if (dt_cmpO (op_ninX hr) oo_nin (DE.c (de_var 6 (pv 6))) (DE.c (de_sibs 0 T.dr (pv 0))) (by with_unfolding_all rfl)) (dss_one (ds_ret (DE.m (de_tup (da_cons de_str (da_cons (de_var 6 (pv 6)) da_nil)))))) dss_nil)
  (dss_cons
  (ds_set (i := 7) sc_Draft_unite.nd rfl (by first | exact Or.inl rfl | exact Or.inr rfl) (DE.m (de_ix hr (DE.c (de_sibs 0 T.dr (pv 0))) (DE.c (de_var 6 (pv 6))) (fun _ _ => rfl))))
  (dss_cons
  (ds_if (dt_cmp (op_neX hr) os_ne (de_call c_level_of hr (by decide) rfl (da_cons (de_ix hr (DE.c (de_var 7 (pv 7))) (DE.c de_int) (fun _ _ => rfl)) da_nil)) (de_call c_level_of hr (by decide) rfl (da_cons (de_var 2 (pv 2)) da_nil)) (nomark _)) (dss_one (ds_ret (DE.m (de_tup (da_cons de_str (da_cons de_non da_nil)))))) dss_nil)
  (dss_cons
  (ds_if (dt_cmp (op_neX hr) os_ne (de_call c_bounds_of hr (by decide) rfl (da_cons (de_ix hr (DE.c (de_var 7 (pv 7))) (DE.c de_int) (fun _ _ => rfl)) da_nil)) (de_call c_child_bounds hr (by decide) rfl (da_cons (de_var 4 (pv 4)) (da_cons (de_var 5 (pv 5)) da_nil))) (nomark _)) (dss_one (ds_ret (DE.m (de_tup (da_cons de_str (da_cons de_non da_nil)))))) dss_nil)
  (dss_cons
  (ds_set (i := 8) sc_Draft_unite.nd rfl (by first | exact Or.inl rfl | exact Or.inr rfl) (DE.m (de_ix hr (DE.c (de_path 0 T.dr (pv 0))) (DE.c (de_var 1 (pv 1))) (fun _ _ => rfl))))
  (dss_cons
  (ds_if (dt_cmp op_lt os_lt (de_var 5 (pv 5)) (de_var 3 (pv 3)) (nomark _)) (dss_one (ds_ret (dm_meth T.dr c_Draft_unite_pair hr (by decide) (pv 0) (da_cons (de_var 1 (pv 1)) (da_cons (de_var 3 (pv 3)) (da_cons (de_tup (da_cons (de_var 7 (pv 7)) (da_cons (de_ix hr (DE.c (de_var 7 (pv 7))) (DE.c de_int) (fun _ _ => rfl)) da_nil))) (da_cons (de_tup (da_cons (de_var 8 (pv 8)) (da_cons (de_var 2 (pv 2)) da_nil))) da_nil)))) (by decide +kernel)))) dss_nil)
  (dss_one (ds_ret (dm_meth T.dr c_Draft_unite_pair hr (by decide) (pv 0) (da_cons (de_var 1 (pv 1)) (da_cons (de_var 5 (pv 5)) (da_cons (de_tup (da_cons (de_var 8 (pv 8)) (da_cons (de_var 2 (pv 2)) da_nil))) (da_cons (de_tup (da_cons (de_var 7 (pv 7)) (da_cons (de_ix hr (DE.c (de_var 7 (pv 7))) (DE.c de_int) (fun _ _ => rfl)) da_nil))) da_nil)))) (by decide +kernel))))))))))))))))
theorem sc_Draft_settle : FnScope N_Draft_settle ["self", "index", "record"] (defScope s_Draft_settle) := ⟨rfl, rfl, rfl, by decide +kernel, rfl, by decide +kernel, by decide +kernel⟩
theorem ok_Draft_settle {f : Addr} {fd : FuncData} (T : Txt P w K mg base) (F : FunD K "settle" "Draft.settle" (defArgs s_Draft_settle) (defBody s_Draft_settle) (defScope s_Draft_settle) [] [] f fd) (M : Meth K (drC K) "settle" f)
    (c_Draft_give : CalM P w K mg base "give" ["self", "step", "record"] 1 (spM K fn_Draft_give))
    (c_size_of : Cal P w K mg base "size_of" ["record"] 1 (spP K fn_size_of))
    (c_most_of : Cal P w K mg base "most_of" ["record"] 2 (spP K fn_most_of))
    (c_Draft_divide : CalM P w K mg base "divide" ["self", "index", "record"] 8 (spM K fn_Draft_divide))
    (c_Draft_unite : CalM P w K mg base "unite" ["self", "index", "record"] 9 (spM K fn_Draft_unite)) :
    CalM P w K mg base "settle" ["self", "index", "record"] 10 (spM K fn_Draft_settle) :=
  calM_of (n := 2) (np := 2) rfl rfl F M sc_Draft_settle (F.bindsN fun _ _ _ _ _ _ us hl => match us, hl with | [_, _, _], _ => rfl) fun cdv A outer s H E (hr : Room 9 _) =>
  (dss_cons
  (ds_if (dt_cmp op_gt os_gt (de_call c_size_of hr (by decide) rfl (da_cons (de_var 2 (pv 2)) da_nil)) (de_call c_most_of hr (by decide) rfl (da_cons (de_var 2 (pv 2)) da_nil)) (nomark _)) (dss_one (ds_ret (dm_meth T.dr c_Draft_divide hr (by decide) (pv 0) (da_cons (de_var 1 (pv 1)) (da_cons (de_var 2 (pv 2)) da_nil)) (by decide +kernel)))) dss_nil)
  (dss_cons
  (ds_if (dt_w (dw_and (dt_cmp op_gt os_gt (de_var 1 (pv 1)) de_int (nomark _)) (dw_and1 (dt_cmp op_lt os_lt (de_call c_size_of hr (by decide) rfl (da_cons (de_var 2 (pv 2)) da_nil)) (de_glob rfl T.least) (nomark _))))) (dss_one (ds_ret (dm_meth T.dr c_Draft_unite hr (by decide) (pv 0) (da_cons (de_var 1 (pv 1)) (da_cons (de_var 2 (pv 2)) da_nil)) (by decide +kernel)))) dss_nil)
  (dss_cons
  (ds_expr (dm_meth T.dr c_Draft_give hr (by decide) (pv 0) (da_cons (de_ix hr (DE.c (de_path 0 T.dr (pv 0))) (DE.c (de_var 1 (pv 1))) (fun _ _ => rfl)) (da_cons (de_var 2 (pv 2)) da_nil)) (by decide +kernel)))
  (dss_one (ds_ret (DE.m (de_tup (da_cons de_str (da_cons de_non da_nil)))))))))
theorem sc_plan : FnScope N_plan ["call", "path", "siblings"] (defScope s_plan) := ⟨rfl, rfl, rfl, by decide +kernel, rfl, by decide +kernel, by decide +kernel⟩
theorem ok_plan {f : Addr} {fd : FuncData} {fI : Addr} {fdI : FuncData} (T : Txt P w K mg base) (F : FunD K "plan" "plan" (defArgs s_plan) (defBody s_plan) (defScope s_plan) [] [] f fd) (hm : mg "plan" = some (.ref f))
    (c_leaf_change : Cal P w K mg base "leaf_change" ["call", "record"] 8 (spP K fn_leaf_change))
    (c_init : FnOk P w K mg base CX0 1 fI fdI ["self", "path", "siblings"] (spInit K)) (m_init : Mk K (drC K) fI) (b_init : Binds K fdI ["self", "path", "siblings"] [])
    (c_Draft_settle : CalM P w K mg base "settle" ["self", "index", "record"] 10 (spM K fn_Draft_settle))
    (c_Draft_entries : CalM P w K mg base "entries" ["self"] 1 (spM K fn_Draft_entries)) :
    Cal P w K mg base "plan" ["call", "path", "siblings"] 11 (spP K fn_plan) :=
  cal_of F hm sc_plan (F.bindsN fun _ _ _ _ _ _ us hl => match us, hl with | [_, _, _], _ => rfl) fun cdv A outer s H E (hr : Room 10 _) =>
  (dss_cons
  (ds_un (is := [3, 4]) rfl (DE.m (de_call c_leaf_change hr (by decide) rfl (da_cons (de_var 0 (pv 0)) (da_cons (de_ix hr (DE.c (de_ix hr (DE.c (de_var 1 (pv 1))) (DE.c (de_ng de_int)) (fun _ _ => rfl))) (DE.c de_int) (fun _ _ => rfl)) da_nil)))) (dg_cons (pg_name (i := 3) sc_plan.nd rfl (by first | exact Or.inl rfl | exact Or.inr rfl)) (dg_cons (pg_name (i := 4) sc_plan.nd rfl (by first | exact Or.inl rfl | exact Or.inr rfl)) dg_nil)))
  (dss_cons
  (ds_if (dt_cmp op_isN os_isN (de_var 4 (pv 4)) de_non (nomark _)) (dss_one (ds_ret (DE.m (de_tup (da_cons de_str (da_cons (de_var 3 (pv 3)) da_nil)))))) dss_nil)
  (dss_cons
  (ds_make (i := 5) (by decide) sc_plan.nd rfl (by first | exact Or.inl rfl | exact Or.inr rfl) m_init c_init hr (by decide) rfl T.draft b_init (da_cons (de_var 1 (pv 1)) (da_cons (de_var 2 (pv 2)) da_nil)))
  (dss_cons
  (ds_for PassesOwn.never rfl (di_r3 rfl T.range (de_bin op_sub os_sub (de_b1 call_len_seq co_len rfl T.len boot_len' (DE.c (de_var 1 (pv 1)))) de_int) (de_ng de_int) (de_ng de_int)) (pg_name (i := 6) sc_plan.nd rfl (by first | exact Or.inl rfl | exact Or.inr rfl)) (tg_name 6) (dss_cons
  (ds_un (is := [7, 8]) rfl (dm_meth T.dr c_Draft_settle hr (by decide) (pv 5) (da_cons (de_var 6 (pv 6)) (da_cons (de_var 4 (pv 4)) da_nil)) (by decide +kernel)) (dg_cons (pg_name (i := 7) sc_plan.nd rfl (by first | exact Or.inl rfl | exact Or.inr rfl)) (dg_cons (pg_name (i := 8) sc_plan.nd rfl (by first | exact Or.inl rfl | exact Or.inr rfl)) dg_nil)))
  (dss_cons
  (ds_if (dt_cmp (op_eqX hr) os_eq (de_var 7 (pv 7)) de_str (nomark _)) (dss_one (ds_ret (DE.m (de_tup (da_cons de_str (da_cons (de_var 8 (pv 8)) da_nil)))))) dss_nil)
  (dss_cons
  (ds_if (dt_cmp (op_eqX hr) os_eq (de_var 7 (pv 7)) de_str (nomark _)) (dss_one (ds_ret (DE.m (de_tup (da_cons de_str da_nil))))) dss_nil)
  (dss_cons
  (ds_if (dt_cmp (op_eqX hr) os_eq (de_var 7 (pv 7)) de_str (nomark _)) (dss_one ds_break) dss_nil)
  (dss_one (ds_set (i := 4) sc_plan.nd rfl (by first | exact Or.inl rfl | exact Or.inr rfl) (DE.m (de_var 8 (pv 8))))))))))
  (dss_one (ds_ret (dm_tup (dam_cons (DE.m de_str) (dam_cons (DE.m (de_var 3 (pv 3))) (dam_cons (dm_meth0 T.dr c_Draft_entries hr (by decide) (pv 5) (by decide +kernel)) dam_nil))))))))))
theorem sc_new_pages : FnScope N_new_pages ["entries"] (defScope s_new_pages) := ⟨rfl, rfl, rfl, by decide +kernel, rfl, by decide +kernel, by decide +kernel⟩
theorem ok_new_pages {f : Addr} {fd : FuncData} (T : Txt P w K mg base) (F : FunD K "new_pages" "new_pages" (defArgs s_new_pages) (defBody s_new_pages) (defScope s_new_pages) [] [] f fd) (hm : mg "new_pages" = some (.ref f))
     :
    Cal P w K mg base "new_pages" ["entries"] 1 (spP K fn_new_pages) :=
  cal_of F hm sc_new_pages (F.bindsN fun _ _ _ _ _ _ us hl => match us, hl with | [_], _ => rfl) fun cdv A outer s H E (hr : Room 0 _) =>
  (dss_one (ds_ret (DE.m (de_b1 call_len_seq co_len rfl T.len boot_len' (DE.c (de_lc rfl sc_new_pages.nd (di_list (de_var 0 (pv 0))) (blkOk_by (own := [("entry", 1)]) (N := N_new_pages) (sc := defScope s_new_pages) (by decide +kernel)) (fun _ _ _ _ _ => pg_name (i := 1) sc_new_pages.nd rfl (Or.inl rfl)) (fun _ _ _ _ _ => dts_one (dt_cmp op_lt os_lt (de_ix hr (DE.c (de_var 1 (pv 1))) (DE.c de_int) (fun _ _ => rfl)) de_int (nomark _))) (fun _ _ _ _ _ => (de_var 1 (pv 1)))))))))
theorem sc_real_page : FnScope N_real_page ["page", "pages"] (defScope s_real_page) := ⟨rfl, rfl, rfl, by decide +kernel, rfl, by decide +kernel, by decide +kernel⟩
theorem ok_real_page {f : Addr} {fd : FuncData} (T : Txt P w K mg base) (F : FunD K "real_page" "real_page" (defArgs s_real_page) (defBody s_real_page) (defScope s_real_page) [] [] f fd) (hm : mg "real_page" = some (.ref f))
     :
    Cal P w K mg base "real_page" ["page", "pages"] 1 (spP K fn_real_page) :=
  cal_of F hm sc_real_page (F.bindsN fun _ _ _ _ _ _ us hl => match us, hl with | [_, _], _ => rfl) fun cdv A outer s H E (hr : Room 0 _) =>
  (dss_cons
  (ds_if (dt_cmp op_lt os_lt (de_var 0 (pv 0)) de_int (nomark _)) (dss_one (ds_ret (DE.m (de_ix hr (DE.c (de_var 1 (pv 1))) (DE.c (de_bin op_sub os_sub (de_ng de_int) (de_var 0 (pv 0)))) (fun _ _ => rfl))))) dss_nil)
  (dss_one (ds_ret (DE.m (de_var 0 (pv 0))))))
theorem sc_placed : FnScope N_placed ["entries", "pages"] (defScope s_placed) := ⟨rfl, rfl, rfl, by decide +kernel, rfl, by decide +kernel, by decide +kernel⟩
theorem ok_placed {f : Addr} {fd : FuncData} (T : Txt P w K mg base) (F : FunD K "placed" "placed" (defArgs s_placed) (defBody s_placed) (defScope s_placed) [] [] f fd) (hm : mg "placed" = some (.ref f))
    (c_real_page : Cal P w K mg base "real_page" ["page", "pages"] 1 (spP K fn_real_page)) :
    Cal P w K mg base "placed" ["entries", "pages"] 2 (spP K fn_placed) :=
  cal_of F hm sc_placed (F.bindsN fun _ _ _ _ _ _ us hl => match us, hl with | [_, _], _ => rfl) fun cdv A outer s H E (hr : Room 1 _) =>
  (dss_cons
  (ds_ownL (i := 2) sc_placed.nd rfl (by first | exact Or.inl rfl | exact Or.inr rfl) da_nil)
  (dss_cons
  (ds_for PassesOwn.never rfl (di_list (de_var 0 (pv 0))) (pg_tup rfl (dg_cons (pg_name (i := 3) sc_placed.nd rfl (by first | exact Or.inl rfl | exact Or.inr rfl)) (dg_cons (pg_name (i := 4) sc_placed.nd rfl (by first | exact Or.inl rfl | exact Or.inr rfl)) (dg_cons (pg_name (i := 5) sc_placed.nd rfl (by first | exact Or.inl rfl | exact Or.inr rfl)) dg_nil)))) (tg_tup (is := [3, 4, 5]) rfl) (dss_cons
  (ds_if (dt_cmp (op_eqX hr) os_eq (de_ix hr (DE.c (de_var 5 (pv 5))) (DE.c de_int) (fun _ _ => rfl)) de_str (nomark _)) (dss_cons
  (ds_set (i := 6) sc_placed.nd rfl (by first | exact Or.inl rfl | exact Or.inr rfl) (DE.m (de_t1 call_tuple_of co_tuple rfl T.tuple boot_tuple' (DE.c (de_lc rfl sc_placed.nd (di_tup (de_ix hr (DE.c (de_var 5 (pv 5))) (DE.c de_int) (fun _ _ => rfl))) (blkOk_by (own := [("below", 7)]) (N := N_placed) (sc := defScope s_placed) (by decide +kernel)) (fun _ _ _ _ _ => pg_name (i := 7) sc_placed.nd rfl (Or.inl rfl)) (fun _ _ _ _ _ => dts_nil) (fun _ _ _ _ _ => (de_call c_real_page hr (by decide) rfl (da_cons (de_var 7 (pv 7)) (da_cons (de_var 1 (pv 1)) da_nil)))))))))
  (dss_one (ds_set (i := 5) sc_placed.nd rfl (by first | exact Or.inl rfl | exact Or.inr rfl) (DE.m (de_bin op_addD os_add (de_sl (de_var 5 (pv 5)) do_none (do_some de_int)) (de_tup (da_cons (de_var 6 (pv 6)) da_nil))))))) dss_nil)
  (dss_one (ds_app (i := 2) (pv 2) (de_tup (da_cons (de_call c_real_page hr (by decide) rfl (da_cons (de_var 3 (pv 3)) (da_cons (de_var 1 (pv 1)) da_nil))) (da_cons (de_var 4 (pv 4)) (da_cons (de_var 5 (pv 5)) da_nil))))))))
  (dss_one (ds_ret (DE.m (de_var 2 (pv 2)))))))
theorem sc_law_cell : FnScope N_law_cell ["_law_script", "_law_k"] (defScope s_law_cell) := ⟨rfl, rfl, rfl, by decide +kernel, rfl, by decide +kernel, by decide +kernel⟩
theorem ok_law_cell {f : Addr} {fd : FuncData} (T : Txt P w K mg base) (F : FunD K "_law_cell" "_law_cell" (defArgs s_law_cell) (defBody s_law_cell) (defScope s_law_cell) [] [] f fd) (hm : mg "_law_cell" = some (.ref f))
     :
    Cal P w K mg base "_law_cell" ["_law_script", "_law_k"] 1 (spP K fn_law_cell) :=
  cal_of F hm sc_law_cell (F.bindsN fun _ _ _ _ _ _ us hl => match us, hl with | [_, _], _ => rfl) fun cdv A outer s H E (hr : Room 0 _) =>
  (dss_cons
  (ds_if (dt_cmp op_lt os_lt (de_var 1 (pv 1)) (de_b1 call_len_seq co_len rfl T.len boot_len' (DE.c (de_var 0 (pv 0)))) (nomark _)) (dss_one (ds_ret (DE.m (de_t1 call_int1 co_int rfl T.int boot_int' (DE.c (de_ix hr (DE.c (de_var 0 (pv 0))) (DE.c (de_var 1 (pv 1))) (fun _ _ => rfl))))))) dss_nil)
  (dss_one (ds_ret (DE.m de_int))))
end
end K32
end
section
set_option Elab.async false
set_option linter.all false
set_option maxRecDepth 100000
set_option maxHeartbeats 4000000
namespace K32
open PySem PySem.Spec PyProof.Rows L2
/-! the defs walked, printed by gen.py -/
section
variable {P : Program} {w : World} {K : PySem.W.Frag} {mg : Str → Option Value} {base : Heap}
theorem sc_law_digits : FnScope N_law_digits ["_law_cell_here", "_law_bases"] (defScope s_law_digits) := ⟨rfl, rfl, rfl, by decide +kernel, rfl, by decide +kernel, by decide +kernel⟩
theorem ok_law_digits {f : Addr} {fd : FuncData} (T : Txt P w K mg base) (F : FunD K "_law_digits" "_law_digits" (defArgs s_law_digits) (defBody s_law_digits) (defScope s_law_digits) [] [] f fd) (hm : mg "_law_digits" = some (.ref f))
     :
    Cal P w K mg base "_law_digits" ["_law_cell_here", "_law_bases"] 1 (spP K fn_law_digits) :=
  cal_of F hm sc_law_digits (F.bindsN fun _ _ _ _ _ _ us hl => match us, hl with | [_, _], _ => rfl) fun cdv A outer s H E (hr : Room 0 _) =>
  (dss_cons
  (ds_ownL (i := 2) sc_law_digits.nd rfl (by first | exact Or.inl rfl | exact Or.inr rfl) da_nil)
  (dss_cons
  (ds_set (i := 3) sc_law_digits.nd rfl (by first | exact Or.inl rfl | exact Or.inr rfl) (DE.m (de_t1 call_int1 co_int rfl T.int boot_int' (DE.c (de_var 0 (pv 0))))))
  (dss_cons
  (ds_for PassesOwn.never rfl (di_list (de_var 1 (pv 1))) (pg_name (i := 4) sc_law_digits.nd rfl (by first | exact Or.inl rfl | exact Or.inr rfl)) (tg_name 4) (dss_one (ds_if (dt_cmp op_ge os_ge (de_var 0 (pv 0)) (de_bin op_pow os_pow de_int de_int) (nomark _)) (dss_cons
  (ds_app (i := 2) (pv 2) (de_bin op_mod os_mod (de_t1 call_int1 co_int rfl T.int boot_int' (DE.c (de_var 3 (pv 3)))) (de_var 4 (pv 4))))
  (dss_one (ds_set (i := 3) sc_law_digits.nd rfl (by first | exact Or.inl rfl | exact Or.inr rfl) (DE.m (de_bin op_fdiv os_div (de_var 3 (pv 3)) (de_var 4 (pv 4))))))) (dss_cons
  (ds_set (i := 3) sc_law_digits.nd rfl (by first | exact Or.inl rfl | exact Or.inr rfl) (DE.m (de_bin op_mod os_mod (de_bin op_addD os_add (de_bin op_addD os_add (de_bin op_mul os_mul (de_t1 call_int1 co_int rfl T.int boot_int' (DE.c (de_var 3 (pv 3)))) de_int) (de_bin op_mul os_mul de_int (de_b1 call_len_seq co_len rfl T.len boot_len' (dc_var 2 (pv 2))))) de_int) de_int)))
  (dss_cons
  (ds_set (i := 5) sc_law_digits.nd rfl (by first | exact Or.inl rfl | exact Or.inr rfl) (DE.m (de_bin op_mod os_mod (de_bin op_mul os_mul (de_t1 call_int1 co_int rfl T.int boot_int' (DE.c (de_var 3 (pv 3)))) (de_t1 call_int1 co_int rfl T.int boot_int' (DE.c (de_var 3 (pv 3))))) de_int)))
  (dss_one (ds_app (i := 2) (pv 2) (de_bin op_mod os_mod (de_bin op_fdiv os_div (de_t1 call_int1 co_int rfl T.int boot_int' (DE.c (de_var 5 (pv 5)))) de_int) (de_var 4 (pv 4))))))))))
  (dss_one (ds_ret (DE.m (de_var 2 (pv 2))))))))
theorem sc_law_many : FnScope N_law_many ["_law_script", "_law_few", "_law_many_here"] (defScope s_law_many) := ⟨rfl, rfl, rfl, by decide +kernel, rfl, by decide +kernel, by decide +kernel⟩
theorem ok_law_many {f : Addr} {fd : FuncData} (T : Txt P w K mg base) (F : FunD K "_law_many" "_law_many" (defArgs s_law_many) (defBody s_law_many) (defScope s_law_many) [] [] f fd) (hm : mg "_law_many" = some (.ref f))
     :
    Cal P w K mg base "_law_many" ["_law_script", "_law_few", "_law_many_here"] 1 (spP K fn_law_many) :=
  cal_of F hm sc_law_many (F.bindsN fun _ _ _ _ _ _ us hl => match us, hl with | [_, _, _], _ => rfl) fun cdv A outer s H E (hr : Room 0 _) =>
  (dss_cons
  (ds_if (dt_w (dw_and (dt_cmp op_gt os_gt (de_b1 call_len_seq co_len rfl T.len boot_len' (DE.c (de_var 0 (pv 0)))) de_int (nomark _)) (dw_and1 (dt_cmp (op_eqX hr) os_eq (de_bin op_mod os_mod (de_bin op_fdiv os_div (de_t1 call_int1 co_int rfl T.int boot_int' (DE.c (de_ix hr (DE.c (de_var 0 (pv 0))) (DE.c de_int) (fun _ _ => rfl)))) de_int) de_int) de_int (nomark _))))) (dss_one (ds_ret (DE.m (de_var 2 (pv 2))))) dss_nil)
  (dss_one (ds_ret (DE.m (de_var 1 (pv 1))))))
theorem sc_law_call : FnScope N_law_call ["_law_cell_here", "_law_width", "_law_table"] (defScope s_law_call) := ⟨rfl, rfl, rfl, by decide +kernel, rfl, by decide +kernel, by decide +kernel⟩
theorem ok_law_call {f : Addr} {fd : FuncData} (T : Txt P w K mg base) (F : FunD K "_law_call" "_law_call" (defArgs s_law_call) (defBody s_law_call) (defScope s_law_call) [] [] f fd) (hm : mg "_law_call" = some (.ref f))
    (c_law_digits : Cal P w K mg base "_law_digits" ["_law_cell_here", "_law_bases"] 1 (spP K fn_law_digits)) :
    Cal P w K mg base "_law_call" ["_law_cell_here", "_law_width", "_law_table"] 2 (spP K fn_law_call) :=
  cal_of F hm sc_law_call (F.bindsN fun _ _ _ _ _ _ us hl => match us, hl with | [_, _, _], _ => rfl) fun cdv A outer s H E (hr : Room 1 _) =>
  (dss_cons
  (ds_set (i := 3) sc_law_call.nd rfl (by first | exact Or.inl rfl | exact Or.inr rfl) (DE.m (de_call c_law_digits hr (by decide) rfl (da_cons (de_var 0 (pv 0)) (da_cons (de_lst (da_cons de_int (da_cons (de_var 1 (pv 1)) (da_cons de_int (da_cons de_int (da_cons de_int (da_cons de_int da_nil))))))) da_nil)))))
  (dss_cons
  (ds_set (i := 4) sc_law_call.nd rfl (by first | exact Or.inl rfl | exact Or.inr rfl) (DE.m (de_bin op_sub os_sub (de_ix hr (DE.c (de_var 3 (pv 3))) (DE.c de_int) (fun _ _ => rfl)) (de_bin op_fdiv os_div (de_var 1 (pv 1)) de_int))))
  (dss_cons
  (ds_set (i := 5) sc_law_call.nd rfl (by first | exact Or.inl rfl | exact Or.inr rfl) (DE.m (de_ix hr (DE.c (de_lst (da_cons de_str (da_cons de_str (da_cons de_str (da_cons de_str (da_cons de_str (da_cons de_str (da_cons de_str da_nil))))))))) (DE.c (de_ix hr (DE.c (de_var 3 (pv 3))) (DE.c de_int) (fun _ _ => rfl))) (fun _ _ => rfl))))
  (dss_cons
  (ds_set (i := 6) sc_law_call.nd rfl (by first | exact Or.inl rfl | exact Or.inr rfl) (DE.m (de_b1 (cr_sortedX rfl) co_sorted rfl T.sorted boot_sorted' (DE.c (de_var 2 (pv 2))))))
  (dss_cons
  (ds_if (dt_w (dw_and (dt_cmp op_gt os_gt (de_ix hr (DE.c (de_var 3 (pv 3))) (DE.c de_int) (fun _ _ => rfl)) de_int (nomark _)) (dw_and (dt_cmpO (op_inX hr) oo_in (DE.c (de_var 5 (pv 5))) (DE.c (de_tup (da_cons de_str (da_cons de_str (da_cons de_str da_nil))))) (by with_unfolding_all rfl)) (dw_and1 (dt_cmp (op_neX hr) os_ne (de_var 6 (pv 6)) (de_lst da_nil) (nomark _)))))) (dss_one (ds_set (i := 4) sc_law_call.nd rfl (by first | exact Or.inl rfl | exact Or.inr rfl) (DE.m (de_ix hr (DE.c (de_var 6 (pv 6))) (DE.c (de_bin op_mod os_mod (de_ix hr (DE.c (de_var 3 (pv 3))) (DE.c de_int) (fun _ _ => rfl)) (de_b1 call_len_seq co_len rfl T.len boot_len' (DE.c (de_var 6 (pv 6)))))) (fun _ _ => rfl))))) dss_nil)
  (dss_cons
  (ds_if (dt_w (dw_or (dt_cmp (op_eqX hr) os_eq (de_var 5 (pv 5)) de_str (nomark _)) (dw_or1 (dt_cmp (op_eqX hr) os_eq (de_var 5 (pv 5)) de_str (nomark _))))) (dss_one (ds_ret (DE.m (de_tup (da_cons (de_var 5 (pv 5)) (da_cons (de_var 4 (pv 4)) (da_cons (de_ix hr (DE.c (de_var 3 (pv 3))) (DE.c de_int) (fun _ _ => rfl)) da_nil))))))) dss_nil)
  (dss_cons
  (ds_if (dt_cmp (op_eqX hr) os_eq (de_var 5 (pv 5)) de_str (nomark _)) (dss_cons
  (ds_set (i := 7) sc_law_call.nd rfl (by first | exact Or.inl rfl | exact Or.inr rfl) (DE.m (de_ix hr (DE.c (de_var 3 (pv 3))) (DE.c de_int) (fun _ _ => rfl))))
  (dss_cons
  (ds_if (dt_cmp op_gt os_gt (de_ix hr (DE.c (de_var 3 (pv 3))) (DE.c de_int) (fun _ _ => rfl)) de_int (nomark _)) (dss_one (ds_set (i := 7) sc_law_call.nd rfl (by first | exact Or.inl rfl | exact Or.inr rfl) (DE.m (de_get2 hr (DE.c (de_var 2 (pv 2))) (de_var 4 (pv 4)) (de_ix hr (DE.c (de_var 3 (pv 3))) (DE.c de_int) (fun _ _ => rfl)) ⟨rfl, rfl, rfl, rfl⟩)))) dss_nil)
  (dss_one (ds_ret (DE.m (de_tup (da_cons (de_var 5 (pv 5)) (da_cons (de_var 4 (pv 4)) (da_cons (de_var 7 (pv 7)) (da_cons (de_ix hr (DE.c (de_var 3 (pv 3))) (DE.c de_int) (fun _ _ => rfl)) da_nil)))))))))) dss_nil)
  (dss_one (ds_ret (DE.m (de_tup (da_cons (de_var 5 (pv 5)) (da_cons (de_var 4 (pv 4)) da_nil)))))))))))))
theorem sc_law_due : FnScope N_law_due ["_law_table", "_law_call_here"] (defScope s_law_due) := ⟨rfl, rfl, rfl, by decide +kernel, rfl, by decide +kernel, by decide +kernel⟩
theorem ok_law_due {f : Addr} {fd : FuncData} (T : Txt P w K mg base) (F : FunD K "_law_due" "_law_due" (defArgs s_law_due) (defBody s_law_due) (defScope s_law_due) [] [] f fd) (hm : mg "_law_due" = some (.ref f))
     :
    Cal P w K mg base "_law_due" ["_law_table", "_law_call_here"] 1 (spP K fn_law_due) :=
  cal_of F hm sc_law_due (F.bindsN fun _ _ _ _ _ _ us hl => match us, hl with | [_, _], _ => rfl) fun cdv A outer s H E (hr : Room 0 _) =>
  (dss_cons
  (ds_ownC (i := 2) sc_law_due.nd rfl (by first | exact Or.inl rfl | exact Or.inr rfl) rfl T.dict boot_dict' (DE.c (de_var 0 (pv 0))))
  (dss_cons
  (ds_set (i := 3) sc_law_due.nd rfl (by first | exact Or.inl rfl | exact Or.inr rfl) (DE.m (de_get2 hr (DE.c (de_var 0 (pv 0))) (de_ix hr (DE.c (de_var 1 (pv 1))) (DE.c de_int) (fun _ _ => rfl)) de_non ⟨rfl, rfl, rfl, rfl⟩)))
  (dss_cons
  (ds_if (dt_cmp (op_eqX hr) os_eq (de_ix hr (DE.c (de_var 1 (pv 1))) (DE.c de_int) (fun _ _ => rfl)) de_str (nomark _)) (dss_cons
  (ds_put (i := 2) hr (pv 2) (de_ix hr (DE.c (de_var 1 (pv 1))) (DE.c de_int) (fun _ _ => rfl)) (de_ix hr (DE.c (de_var 1 (pv 1))) (DE.c de_int) (fun _ _ => rfl)))
  (dss_one (ds_ret (DE.m (de_tup (da_cons (de_var 3 (pv 3)) (da_cons (de_var 2 (pv 2)) da_nil))))))) dss_nil)
  (dss_cons
  (ds_if (dt_cmp (op_eqX hr) os_eq (de_ix hr (DE.c (de_var 1 (pv 1))) (DE.c de_int) (fun _ _ => rfl)) de_str (nomark _)) (dss_cons
  (ds_if (dt_cmp op_isN os_isN (de_var 3 (pv 3)) de_non (nomark _)) (dss_one (ds_put (i := 2) hr (pv 2) (de_ix hr (DE.c (de_var 1 (pv 1))) (DE.c de_int) (fun _ _ => rfl)) (de_ix hr (DE.c (de_var 1 (pv 1))) (DE.c de_int) (fun _ _ => rfl)))) dss_nil)
  (dss_one (ds_ret (DE.m (de_tup (da_cons (de_cmp op_isN os_isN (de_var 3 (pv 3)) de_non (nomark _)) (da_cons (de_var 2 (pv 2)) da_nil))))))) dss_nil)
  (dss_cons
  (ds_if (dt_cmp (op_eqX hr) os_eq (de_ix hr (DE.c (de_var 1 (pv 1))) (DE.c de_int) (fun _ _ => rfl)) de_str (nomark _)) (dss_cons
  (ds_if (dt_w (dw_and (dt_cmp op_notN os_notN (de_var 3 (pv 3)) de_non (nomark _)) (dw_and1 (dt_cmp (op_eqX hr) os_eq (de_var 3 (pv 3)) (de_ix hr (DE.c (de_var 1 (pv 1))) (DE.c de_int) (fun _ _ => rfl)) (nomark _))))) (dss_cons
  (ds_put (i := 2) hr (pv 2) (de_ix hr (DE.c (de_var 1 (pv 1))) (DE.c de_int) (fun _ _ => rfl)) (de_ix hr (DE.c (de_var 1 (pv 1))) (DE.c de_int) (fun _ _ => rfl)))
  (dss_one (ds_ret (DE.m (de_tup (da_cons de_bl (da_cons (de_var 2 (pv 2)) da_nil))))))) dss_nil)
  (dss_one (ds_ret (DE.m (de_tup (da_cons de_bl (da_cons (de_var 2 (pv 2)) da_nil))))))) dss_nil)
  (dss_cons
  (ds_if (dt_w (dw_and (dt_cmp (op_eqX hr) os_eq (de_ix hr (DE.c (de_var 1 (pv 1))) (DE.c de_int) (fun _ _ => rfl)) de_str (nomark _)) (dw_and1 (dt_cmp op_notN os_notN (de_var 3 (pv 3)) de_non (nomark _))))) (dss_one (ds_pop (i := 2) (pv 2) (de_ix hr (DE.c (de_var 1 (pv 1))) (DE.c de_int) (fun _ _ => rfl)) ⟨rfl, rfl, rfl, rfl⟩)) dss_nil)
  (dss_one (ds_ret (DE.m (de_tup (da_cons (de_var 3 (pv 3)) (da_cons (de_var 2 (pv 2)) da_nil))))))))))))
theorem sc_law_walk : FnScope N_law_walk ["_law_pages", "_law_key"] (defScope s_law_walk) := ⟨rfl, rfl, rfl, by decide +kernel, rfl, by decide +kernel, by decide +kernel⟩
theorem ok_law_walk {f : Addr} {fd : FuncData} (T : Txt P w K mg base) (F : FunD K "_law_walk" "_law_walk" (defArgs s_law_walk) (defBody s_law_walk) (defScope s_law_walk) [] [] f fd) (hm : mg "_law_walk" = some (.ref f))
     :
    Cal P w K mg base "_law_walk" ["_law_pages", "_law_key"] 1 (spP K fn_law_walk) :=
  cal_of F hm sc_law_walk (F.bindsN fun _ _ _ _ _ _ us hl => match us, hl with | [_, _], _ => rfl) fun cdv A outer s H E (hr : Room 0 _) =>
  (dss_cons
  (ds_ownL (i := 2) sc_law_walk.nd rfl (by first | exact Or.inl rfl | exact Or.inr rfl) (da_cons (de_tup (da_cons de_int (da_cons (de_ix hr (DE.c (de_ix hr (DE.c (de_var 0 (pv 0))) (DE.c de_int) (fun _ _ => rfl))) (DE.c de_int) (fun _ _ => rfl)) (da_cons (de_ix hr (DE.c (de_ix hr (DE.c (de_var 0 (pv 0))) (DE.c de_int) (fun _ _ => rfl))) (DE.c de_int) (fun _ _ => rfl)) (da_cons de_int da_nil))))) da_nil))
  (dss_cons
  (ds_for PassesOwn.never rfl (di_r1 rfl T.range de_int) (pg_name (i := 3) sc_law_walk.nd rfl (by first | exact Or.inl rfl | exact Or.inr rfl)) (tg_name 3) (dss_cons
  (ds_set (i := 4) sc_law_walk.nd rfl (by first | exact Or.inl rfl | exact Or.inr rfl) (DE.m (de_ix hr (DE.c (de_ix hr (dc_var 2 (pv 2)) (DE.c (de_ng de_int)) (fun _ _ => rfl))) (DE.c de_int) (fun _ _ => rfl))))
  (dss_one (ds_if (dt_cmp (op_eqX hr) os_eq (de_ix hr (DE.c (de_var 4 (pv 4))) (DE.c de_int) (fun _ _ => rfl)) de_str (nomark _)) (dss_cons
  (ds_set (i := 5) sc_law_walk.nd rfl (by first | exact Or.inl rfl | exact Or.inr rfl) (DE.m (de_ix hr (DE.c (de_ix hr (DE.c (de_var 4 (pv 4))) (DE.c de_int) (fun _ _ => rfl))) (DE.c (de_b1 call_len_seq co_len rfl T.len boot_len' (DE.c (de_lc rfl sc_law_walk.nd (di_tup (de_ix hr (DE.c (de_var 4 (pv 4))) (DE.c de_int) (fun _ _ => rfl))) (blkOk_by (own := [("_law_one", 6)]) (N := N_law_walk) (sc := defScope s_law_walk) (by decide +kernel)) (fun _ _ _ _ _ => pg_name (i := 6) sc_law_walk.nd rfl (Or.inl rfl)) (fun _ _ _ _ _ => dts_one (dt_cmp op_le os_le (de_var 6 (pv 6)) (de_var 1 (pv 1)) (nomark _))) (fun _ _ _ _ _ => (de_var 6 (pv 6))))))) (fun _ _ => rfl))))
  (dss_one (ds_app (i := 2) (pv 2) (de_tup (da_cons (de_var 5 (pv 5)) (da_cons (de_ix hr (DE.c (de_ix hr (DE.c (de_var 0 (pv 0))) (DE.c (de_var 5 (pv 5))) (fun _ _ => rfl))) (DE.c de_int) (fun _ _ => rfl)) (da_cons (de_ix hr (DE.c (de_ix hr (DE.c (de_var 0 (pv 0))) (DE.c (de_var 5 (pv 5))) (fun _ _ => rfl))) (DE.c de_int) (fun _ _ => rfl)) (da_cons (de_bin op_addD os_add (de_var 3 (pv 3)) de_int) da_nil)))))))) dss_nil))))
  (dss_one (ds_ret (DE.m (de_var 2 (pv 2)))))))
theorem sc_law_planned : FnScope N_law_planned ["_law_pages", "_law_call_here"] (defScope s_law_planned) := ⟨rfl, rfl, rfl, by decide +kernel, rfl, by decide +kernel, by decide +kernel⟩
theorem ok_law_planned {f : Addr} {fd : FuncData} (T : Txt P w K mg base) (F : FunD K "_law_planned" "_law_planned" (defArgs s_law_planned) (defBody s_law_planned) (defScope s_law_planned) [] [] f fd) (hm : mg "_law_planned" = some (.ref f))
    (c_law_walk : Cal P w K mg base "_law_walk" ["_law_pages", "_law_key"] 1 (spP K fn_law_walk))
    (c_plan : Cal P w K mg base "plan" ["call", "path", "siblings"] 11 (spP K fn_plan)) :
    Cal P w K mg base "_law_planned" ["_law_pages", "_law_call_here"] 12 (spP K fn_law_planned) :=
  cal_of F hm sc_law_planned (F.bindsN fun _ _ _ _ _ _ us hl => match us, hl with | [_, _], _ => rfl) fun cdv A outer s H E (hr : Room 11 _) =>
  (dss_cons
  (ds_set (i := 2) sc_law_planned.nd rfl (by first | exact Or.inl rfl | exact Or.inr rfl) (DE.m (de_call c_law_walk hr (by decide) rfl (da_cons (de_var 0 (pv 0)) (da_cons (de_ix hr (DE.c (de_var 1 (pv 1))) (DE.c de_int) (fun _ _ => rfl)) da_nil)))))
  (dss_cons
  (ds_ownD (i := 3) sc_law_planned.nd rfl (by first | exact Or.inl rfl | exact Or.inr rfl))
  (dss_cons
  (ds_for PassesOwn.never rfl (di_r1 rfl T.range de_int) (pg_name (i := 4) sc_law_planned.nd rfl (by first | exact Or.inl rfl | exact Or.inr rfl)) (tg_name 4) (dss_cons
  (ds_set (i := 5) sc_law_planned.nd rfl (by first | exact Or.inl rfl | exact Or.inr rfl) (DE.m (de_call c_plan hr (by decide) rfl (da_cons (de_var 1 (pv 1)) (da_cons (de_t1 call_list_of co_list rfl T.list boot_list' (DE.c (de_var 2 (pv 2)))) (da_cons (de_t1 call_dictD co_dict rfl T.dict boot_dict' (dc_var 3 (pv 3))) da_nil))))))
  (dss_cons
  (ds_if (dt_cmp (op_neX hr) os_ne (de_ix hr (DE.c (de_var 5 (pv 5))) (DE.c de_int) (fun _ _ => rfl)) de_str (nomark _)) (dss_one (ds_ret (DE.m (de_var 5 (pv 5))))) dss_nil)
  (dss_cons
  (ds_set (i := 6) sc_law_planned.nd rfl (by first | exact Or.inl rfl | exact Or.inr rfl) (DE.m (de_ix hr (DE.c (de_var 5 (pv 5))) (DE.c de_int) (fun _ _ => rfl))))
  (dss_one (ds_put (i := 3) hr (pv 3) (de_var 6 (pv 6)) (de_tup (da_cons (de_var 6 (pv 6)) (da_cons (de_ix hr (DE.c (de_ix hr (DE.c (de_var 0 (pv 0))) (DE.c (de_var 6 (pv 6))) (fun _ _ => rfl))) (DE.c de_int) (fun _ _ => rfl)) (da_cons (de_ix hr (DE.c (de_ix hr (DE.c (de_var 0 (pv 0))) (DE.c (de_var 6 (pv 6))) (fun _ _ => rfl))) (DE.c de_int) (fun _ _ => rfl)) (da_cons (de_bin op_addD os_add de_int (de_var 4 (pv 4))) da_nil)))))))))))
  (dss_one (ds_ret (DE.m (de_var 5 (pv 5))))))))
theorem sc_law_free : FnScope N_law_free ["_law_pages", "_law_many_here"] (defScope s_law_free) := ⟨rfl, rfl, rfl, by decide +kernel, rfl, by decide +kernel, by decide +kernel⟩
theorem ok_law_free {f : Addr} {fd : FuncData} (T : Txt P w K mg base) (F : FunD K "_law_free" "_law_free" (defArgs s_law_free) (defBody s_law_free) (defScope s_law_free) [] [] f fd) (hm : mg "_law_free" = some (.ref f))
     :
    Cal P w K mg base "_law_free" ["_law_pages", "_law_many_here"] 1 (spP K fn_law_free) :=
  cal_of F hm sc_law_free (F.bindsN fun _ _ _ _ _ _ us hl => match us, hl with | [_, _], _ => rfl) fun cdv A outer s H E (hr : Room 0 _) =>
  (dss_cons
  (ds_ownL (i := 2) sc_law_free.nd rfl (by first | exact Or.inl rfl | exact Or.inr rfl) da_nil)
  (dss_cons
  (ds_for PassesOwn.never rfl (di_r2 rfl T.range de_int de_int) (pg_name (i := 3) sc_law_free.nd rfl (by first | exact Or.inl rfl | exact Or.inr rfl)) (tg_name 3) (dss_one (ds_if (dt_w (dw_and (dt_cmp op_lt os_lt (de_b1 call_len_seq co_len rfl T.len boot_len' (dc_var 2 (pv 2))) (de_var 1 (pv 1)) (nomark _)) (dw_and1 (dt_w (dw_or (dt_cmpO (op_ninX hr) oo_nin (DE.c (de_var 3 (pv 3))) (DE.c (de_var 0 (pv 0))) (by with_unfolding_all rfl)) (dw_or1 (dt_cmp (op_eqX hr) os_eq (de_ix hr (DE.c (de_ix hr (DE.c (de_ix hr (DE.c (de_var 0 (pv 0))) (DE.c (de_var 3 (pv 3))) (fun _ _ => rfl))) (DE.c de_int) (fun _ _ => rfl))) (DE.c de_int) (fun _ _ => rfl)) de_str (nomark _)))))))) (dss_one (ds_app (i := 2) (pv 2) (de_var 3 (pv 3)))) dss_nil)))
  (dss_one (ds_ret (DE.m (de_var 2 (pv 2)))))))
theorem sc_law_applied : FnScope N_law_applied ["_law_pages", "_law_entries"] (defScope s_law_applied) := ⟨rfl, rfl, rfl, by decide +kernel, rfl, by decide +kernel, by decide +kernel⟩
theorem ok_law_applied {f : Addr} {fd : FuncData} (T : Txt P w K mg base) (F : FunD K "_law_applied" "_law_applied" (defArgs s_law_applied) (defBody s_law_applied) (defScope s_law_applied) [] [] f fd) (hm : mg "_law_applied" = some (.ref f))
    (c_placed : Cal P w K mg base "placed" ["entries", "pages"] 2 (spP K fn_placed))
    (c_law_free : Cal P w K mg base "_law_free" ["_law_pages", "_law_many_here"] 1 (spP K fn_law_free))
    (c_new_pages : Cal P w K mg base "new_pages" ["entries"] 1 (spP K fn_new_pages)) :
    Cal P w K mg base "_law_applied" ["_law_pages", "_law_entries"] 3 (spP K fn_law_applied) :=
  cal_of F hm sc_law_applied (F.bindsN fun _ _ _ _ _ _ us hl => match us, hl with | [_, _], _ => rfl) fun cdv A outer s H E (hr : Room 2 _) =>
  (dss_cons
  (ds_for PassesOwn.never rfl (di_list (de_var 1 (pv 1))) (pg_tup rfl (dg_cons (pg_name (i := 2) sc_law_applied.nd rfl (by first | exact Or.inl rfl | exact Or.inr rfl)) (dg_cons (pg_name (i := 3) sc_law_applied.nd rfl (by first | exact Or.inl rfl | exact Or.inr rfl)) (dg_cons (pg_name (i := 4) sc_law_applied.nd rfl (by first | exact Or.inl rfl | exact Or.inr rfl)) dg_nil)))) (tg_tup (is := [2, 3, 4]) rfl) (dss_one (ds_if (dt_w (dw_and (dt_cmp op_ge os_ge (de_var 2 (pv 2)) de_int (nomark _)) (dw_and1 (dt_w (dw_or (dt_cmpO (op_ninX hr) oo_nin (DE.c (de_var 2 (pv 2))) (DE.c (de_var 0 (pv 0))) (by with_unfolding_all rfl)) (dw_or1 (dt_cmp (op_neX hr) os_ne (de_ix hr (DE.c (de_ix hr (DE.c (de_var 0 (pv 0))) (DE.c (de_var 2 (pv 2))) (fun _ _ => rfl))) (DE.c de_int) (fun _ _ => rfl)) (de_var 3 (pv 3)) (nomark _)))))))) (dss_one (ds_ret (DE.m de_non))) dss_nil)))
  (dss_cons
  (ds_ownC (i := 5) sc_law_applied.nd rfl (by first | exact Or.inl rfl | exact Or.inr rfl) rfl T.dict boot_dict' (DE.c (de_var 0 (pv 0))))
  (dss_cons
  (ds_set (i := 6) sc_law_applied.nd rfl (by first | exact Or.inl rfl | exact Or.inr rfl) (DE.m (de_b1 (cr_max rfl) co_max rfl T.max boot_max' (DE.c (de_lcK rfl sc_law_applied.nd (pv 5) (dk_var 5) (blkOk_by (own := [("_law_page", 2)]) (N := N_law_applied) (sc := defScope s_law_applied) (by decide +kernel)) (fun _ _ _ _ _ => pg_name (i := 2) sc_law_applied.nd rfl (Or.inl rfl)) (fun _ _ _ _ _ => dts_nil) (fun _ _ _ _ _ => (de_ix hr (DE.c (de_ix hr (dc_var 5 (pv 5)) (DE.c (de_var 2 (pv 2))) (fun _ _ => rfl))) (DE.c de_int) (fun _ _ => rfl))))))))
  (dss_cons
  (ds_for PassesOwn.never rfl (di_list (de_call c_placed hr (by decide) rfl (da_cons (de_var 1 (pv 1)) (da_cons (de_call c_law_free hr (by decide) rfl (da_cons (de_var 0 (pv 0)) (da_cons (de_call c_new_pages hr (by decide) rfl (da_cons (de_var 1 (pv 1)) da_nil)) da_nil))) da_nil)))) (pg_tup rfl (dg_cons (pg_name (i := 2) sc_law_applied.nd rfl (by first | exact Or.inl rfl | exact Or.inr rfl)) (dg_cons (pg_name (i := 3) sc_law_applied.nd rfl (by first | exact Or.inl rfl | exact Or.inr rfl)) (dg_cons (pg_name (i := 4) sc_law_applied.nd rfl (by first | exact Or.inl rfl | exact Or.inr rfl)) dg_nil)))) (tg_tup (is := [2, 3, 4]) rfl) (dss_cons
  (ds_set (i := 6) sc_law_applied.nd rfl (by first | exact Or.inl rfl | exact Or.inr rfl) (DE.m (de_bin op_addD os_add (de_var 6 (pv 6)) de_int)))
  (dss_one (ds_put (i := 5) hr (pv 5) (de_var 2 (pv 2)) (de_tup (da_cons (de_var 6 (pv 6)) (da_cons (de_var 4 (pv 4)) da_nil)))))))
  (dss_one (ds_ret (DE.m (de_var 5 (pv 5)))))))))
theorem sc_law_ascending : FnScope N_law_ascending ["_law_keys", "_law_low", "_law_high"] (defScope s_law_ascending) := ⟨rfl, rfl, rfl, by decide +kernel, rfl, by decide +kernel, by decide +kernel⟩
theorem ok_law_ascending {f : Addr} {fd : FuncData} (T : Txt P w K mg base) (F : FunD K "_law_ascending" "_law_ascending" (defArgs s_law_ascending) (defBody s_law_ascending) (defScope s_law_ascending) [] [] f fd) (hm : mg "_law_ascending" = some (.ref f))
     :
    Cal P w K mg base "_law_ascending" ["_law_keys", "_law_low", "_law_high"] 1 (spP K fn_law_ascending) :=
  cal_of F hm sc_law_ascending (F.bindsN fun _ _ _ _ _ _ us hl => match us, hl with | [_, _, _], _ => rfl) fun cdv A outer s H E (hr : Room 0 _) =>
  (dss_cons
  (ds_for PassesOwn.never rfl (di_r1 rfl T.range (de_b1 call_len_seq co_len rfl T.len boot_len' (DE.c (de_var 0 (pv 0))))) (pg_name (i := 3) sc_law_ascending.nd rfl (by first | exact Or.inl rfl | exact Or.inr rfl)) (tg_name 3) (dss_cons
  (ds_if (dt_w (dw_and (dt_cmp op_gt os_gt (de_var 3 (pv 3)) de_int (nomark _)) (dw_and1 (dt_cmp op_ge os_ge (de_ix hr (DE.c (de_var 0 (pv 0))) (DE.c (de_bin op_sub os_sub (de_var 3 (pv 3)) de_int)) (fun _ _ => rfl)) (de_ix hr (DE.c (de_var 0 (pv 0))) (DE.c (de_var 3 (pv 3))) (fun _ _ => rfl)) (nomark _))))) (dss_one (ds_ret (DE.m de_bl))) dss_nil)
  (dss_one (ds_if (dt_w (dw_or (dt_w (dw_and (dt_cmp op_notN os_notN (de_var 1 (pv 1)) de_non (nomark _)) (dw_and1 (dt_cmp op_lt os_lt (de_ix hr (DE.c (de_var 0 (pv 0))) (DE.c (de_var 3 (pv 3))) (fun _ _ => rfl)) (de_var 1 (pv 1)) (nomark _))))) (dw_or1 (dt_w (dw_and (dt_cmp op_notN os_notN (de_var 2 (pv 2)) de_non (nomark _)) (dw_and1 (dt_cmp op_ge os_ge (de_ix hr (DE.c (de_var 0 (pv 0))) (DE.c (de_var 3 (pv 3))) (fun _ _ => rfl)) (de_var 2 (pv 2)) (nomark _)))))))) (dss_one (ds_ret (DE.m de_bl))) dss_nil))))
  (dss_one (ds_ret (DE.m de_bl))))
theorem sc_law_below : FnScope N_law_below ["_law_record", "_law_level"] (defScope s_law_below) := ⟨rfl, rfl, rfl, by decide +kernel, rfl, by decide +kernel, by decide +kernel⟩
theorem ok_law_below {f : Addr} {fd : FuncData} (T : Txt P w K mg base) (F : FunD K "_law_below" "_law_below" (defArgs s_law_below) (defBody s_law_below) (defScope s_law_below) [] [] f fd) (hm : mg "_law_below" = some (.ref f))
     :
    Cal P w K mg base "_law_below" ["_law_record", "_law_level"] 1 (spP K fn_law_below) :=
  cal_of F hm sc_law_below (F.bindsN fun _ _ _ _ _ _ us hl => match us, hl with | [_, _], _ => rfl) fun cdv A outer s H E (hr : Room 0 _) =>
  (dss_cons
  (ds_ownL (i := 2) sc_law_below.nd rfl (by first | exact Or.inl rfl | exact Or.inr rfl) da_nil)
  (dss_cons
  (ds_for PassesOwn.never rfl (di_r1 rfl T.range (de_b1 call_len_seq co_len rfl T.len boot_len' (DE.c (de_ix hr (DE.c (de_var 0 (pv 0))) (DE.c de_int) (fun _ _ => rfl))))) (pg_name (i := 3) sc_law_below.nd rfl (by first | exact Or.inl rfl | exact Or.inr rfl)) (tg_name 3) (dss_cons
  (ds_par2 (i := 4) (j := 5) rfl sc_law_below.nd rfl rfl (by decide) rfl rfl (da_cons (de_ix hr (DE.c (de_var 0 (pv 0))) (DE.c de_int) (fun _ _ => rfl)) (da_cons (de_ix hr (DE.c (de_var 0 (pv 0))) (DE.c de_int) (fun _ _ => rfl)) da_nil)) (by rfl))
  (dss_cons
  (ds_if (dt_cmp op_gt os_gt (de_var 3 (pv 3)) de_int (nomark _)) (dss_one (ds_set (i := 4) sc_law_below.nd rfl (by first | exact Or.inl rfl | exact Or.inr rfl) (DE.m (de_ix hr (DE.c (de_ix hr (DE.c (de_var 0 (pv 0))) (DE.c de_int) (fun _ _ => rfl))) (DE.c (de_bin op_sub os_sub (de_var 3 (pv 3)) de_int)) (fun _ _ => rfl))))) dss_nil)
  (dss_cons
  (ds_if (dt_cmp op_lt os_lt (de_var 3 (pv 3)) (de_b1 call_len_seq co_len rfl T.len boot_len' (DE.c (de_ix hr (DE.c (de_var 0 (pv 0))) (DE.c de_int) (fun _ _ => rfl)))) (nomark _)) (dss_one (ds_set (i := 5) sc_law_below.nd rfl (by first | exact Or.inl rfl | exact Or.inr rfl) (DE.m (de_ix hr (DE.c (de_ix hr (DE.c (de_var 0 (pv 0))) (DE.c de_int) (fun _ _ => rfl))) (DE.c (de_var 3 (pv 3))) (fun _ _ => rfl))))) dss_nil)
  (dss_one (ds_app (i := 2) (pv 2) (de_tup (da_cons (de_ix hr (DE.c (de_ix hr (DE.c (de_var 0 (pv 0))) (DE.c de_int) (fun _ _ => rfl))) (DE.c (de_var 3 (pv 3))) (fun _ _ => rfl)) (da_cons (de_var 4 (pv 4)) (da_cons (de_var 5 (pv 5)) (da_cons (de_bin op_sub os_sub (de_var 1 (pv 1)) de_int) da_nil)))))))))))
  (dss_one (ds_ret (DE.m (de_var 2 (pv 2)))))))
end
end K32
end
section
set_option Elab.async false
set_option linter.all false
set_option maxRecDepth 100000
set_option maxHeartbeats 4000000
namespace K32
open PySem PySem.Spec PyProof.Rows L2
/-! the defs walked, printed by gen.py -/
section
variable {P : Program} {w : World} {K : PySem.W.Frag} {mg : Str → Option Value} {base : Heap}
theorem sc_law_fits : FnScope N_law_fits ["_law_page", "_law_record", "_law_low", "_law_high", "_law_level"] (defScope s_law_fits) := ⟨rfl, rfl, rfl, by decide +kernel, rfl, by decide +kernel, by decide +kernel⟩
theorem ok_law_fits {f : Addr} {fd : FuncData} (T : Txt P w K mg base) (F : FunD K "_law_fits" "_law_fits" (defArgs s_law_fits) (defBody s_law_fits) (defScope s_law_fits) [] [] f fd) (hm : mg "_law_fits" = some (.ref f))
    (c_law_ascending : Cal P w K mg base "_law_ascending" ["_law_keys", "_law_low", "_law_high"] 1 (spP K fn_law_ascending)) :
    Cal P w K mg base "_law_fits" ["_law_page", "_law_record", "_law_low", "_law_high", "_law_level"] 2 (spP K fn_law_fits) :=
  cal_of F hm sc_law_fits (F.bindsN fun _ _ _ _ _ _ us hl => match us, hl with | [_, _, _, _, _], _ => rfl) fun cdv A outer s H E (hr : Room 1 _) =>
  (dss_cons
  (ds_set (i := 5) sc_law_fits.nd rfl (by first | exact Or.inl rfl | exact Or.inr rfl) (DE.m (de_bin op_mul os_mul de_int (de_t1 call_int1 co_int rfl T.int boot_int' (DE.c (de_cmp (op_neX hr) os_ne (de_var 0 (pv 0)) de_int (nomark _)))))))
  (dss_cons
  (ds_if (dt_w (dw_and (dt_cmp (op_eqX hr) os_eq (de_ix hr (DE.c (de_var 1 (pv 1))) (DE.c de_int) (fun _ _ => rfl)) de_str (nomark _)) (dw_and1 (dt_cmp (op_eqX hr) os_eq (de_b1 call_len_seq co_len rfl T.len boot_len' (DE.c (de_var 1 (pv 1)))) de_int (nomark _))))) (dss_cons
  (ds_if (dt_w (dw_or (dt_cmp op_gt os_gt (de_var 4 (pv 4)) de_int (nomark _)) (dw_or (dt_cmp (op_neX hr) os_ne (de_sl (de_var 1 (pv 1)) (do_some de_int) (do_some de_int)) (de_tup (da_cons (de_var 2 (pv 2)) (da_cons (de_var 3 (pv 3)) da_nil))) (nomark _)) (dw_or1 (dt_not (dt_ch op_le op_le os_le os_le (de_var 5 (pv 5)) (de_b1 call_len_seq co_len rfl T.len boot_len' (DE.c (de_ix hr (DE.c (de_var 1 (pv 1))) (DE.c de_int) (fun _ _ => rfl)))) de_int)))))) (dss_one (ds_ret (DE.m de_bl))) dss_nil)
  (dss_one (ds_ret (DE.m (de_and (de_cmp (op_eqX hr) os_eq (de_b1 call_len_seq co_len rfl T.len boot_len' (DE.c (de_ix hr (DE.c (de_var 1 (pv 1))) (DE.c de_int) (fun _ _ => rfl)))) (de_b1 call_len_seq co_len rfl T.len boot_len' (DE.c (de_ix hr (DE.c (de_var 1 (pv 1))) (DE.c de_int) (fun _ _ => rfl)))) (nomark _)) (de_one (de_call c_law_ascending hr (by decide) rfl (da_cons (de_ix hr (DE.c (de_var 1 (pv 1))) (DE.c de_int) (fun _ _ => rfl)) (da_cons (de_var 2 (pv 2)) (da_cons (de_var 3 (pv 3)) da_nil)))))))))) dss_nil)
  (dss_cons
  (ds_if (dt_w (dw_or (dt_cmp (op_neX hr) os_ne (de_ix hr (DE.c (de_var 1 (pv 1))) (DE.c de_int) (fun _ _ => rfl)) de_str (nomark _)) (dw_or (dt_cmp (op_neX hr) os_ne (de_b1 call_len_seq co_len rfl T.len boot_len' (DE.c (de_var 1 (pv 1)))) de_int (nomark _)) (dw_or1 (dt_cmp op_lt os_lt (de_ix hr (DE.c (de_var 1 (pv 1))) (DE.c de_int) (fun _ _ => rfl)) de_int (nomark _)))))) (dss_one (ds_ret (DE.m de_bl))) dss_nil)
  (dss_cons
  (ds_if (dt_w (dw_or (dt_w (dw_and (dt_cmp op_ge os_ge (de_var 4 (pv 4)) de_int (nomark _)) (dw_and1 (dt_cmp (op_neX hr) os_ne (de_ix hr (DE.c (de_var 1 (pv 1))) (DE.c de_int) (fun _ _ => rfl)) (de_var 4 (pv 4)) (nomark _))))) (dw_or1 (dt_cmp (op_neX hr) os_ne (de_sl (de_var 1 (pv 1)) (do_some de_int) (do_some de_int)) (de_tup (da_cons (de_var 2 (pv 2)) (da_cons (de_var 3 (pv 3)) da_nil))) (nomark _))))) (dss_one (ds_ret (DE.m de_bl))) dss_nil)
  (dss_cons
  (ds_if (dt_w (dw_or (dt_not (dt_ch op_le op_le os_le os_le de_int (de_b1 call_len_seq co_len rfl T.len boot_len' (DE.c (de_ix hr (DE.c (de_var 1 (pv 1))) (DE.c de_int) (fun _ _ => rfl)))) de_int)) (dw_or1 (dt_cmp (op_neX hr) os_ne (de_b1 call_len_seq co_len rfl T.len boot_len' (DE.c (de_ix hr (DE.c (de_var 1 (pv 1))) (DE.c de_int) (fun _ _ => rfl)))) (de_bin op_sub os_sub (de_b1 call_len_seq co_len rfl T.len boot_len' (DE.c (de_ix hr (DE.c (de_var 1 (pv 1))) (DE.c de_int) (fun _ _ => rfl)))) de_int) (nomark _))))) (dss_one (ds_ret (DE.m de_bl))) dss_nil)
  (dss_one (ds_ret (DE.m (de_and (de_call c_law_ascending hr (by decide) rfl (da_cons (de_ix hr (DE.c (de_var 1 (pv 1))) (DE.c de_int) (fun _ _ => rfl)) (da_cons (de_var 2 (pv 2)) (da_cons (de_var 3 (pv 3)) da_nil)))) (de_one (de_cmpO (op_ninX hr) oo_nin (DE.c (de_var 2 (pv 2))) (DE.c (de_ix hr (DE.c (de_var 1 (pv 1))) (DE.c de_int) (fun _ _ => rfl))) (by with_unfolding_all rfl))))))))))))
theorem sc_law_map : FnScope N_law_map ["_law_pages"] (defScope s_law_map) := ⟨rfl, rfl, rfl, by decide +kernel, rfl, by decide +kernel, by decide +kernel⟩
theorem ok_law_map {f : Addr} {fd : FuncData} (T : Txt P w K mg base) (F : FunD K "_law_map" "_law_map" (defArgs s_law_map) (defBody s_law_map) (defScope s_law_map) [] [] f fd) (hm : mg "_law_map" = some (.ref f))
    (c_law_fits : Cal P w K mg base "_law_fits" ["_law_page", "_law_record", "_law_low", "_law_high", "_law_level"] 2 (spP K fn_law_fits))
    (c_law_below : Cal P w K mg base "_law_below" ["_law_record", "_law_level"] 1 (spP K fn_law_below)) :
    Cal P w K mg base "_law_map" ["_law_pages"] 3 (spP K fn_law_map) :=
  cal_of F hm sc_law_map (F.bindsN fun _ _ _ _ _ _ us hl => match us, hl with | [_], _ => rfl) fun cdv A outer s H E (hr : Room 2 _) =>
  (dss_cons
  (ds_ownD (i := 1) sc_law_map.nd rfl (by first | exact Or.inl rfl | exact Or.inr rfl))
  (dss_cons
  (ds_set (i := 2) sc_law_map.nd rfl (by first | exact Or.inl rfl | exact Or.inr rfl) (DE.m (de_lst (da_cons (de_tup (da_cons de_int (da_cons de_non (da_cons de_non (da_cons (de_ng de_int) da_nil))))) da_nil))))
  (dss_cons
  (ds_ownL (i := 3) sc_law_map.nd rfl (by first | exact Or.inl rfl | exact Or.inr rfl) da_nil)
  (dss_cons
  (ds_for PassesOwn.never rfl (di_r1 rfl T.range de_int) (pg_name (i := 4) sc_law_map.nd rfl (by first | exact Or.inl rfl | exact Or.inr rfl)) (tg_name 4) (dss_one (ds_if (dt_cmp op_lt os_lt (de_var 4 (pv 4)) (de_b1 call_len_seq co_len rfl T.len boot_len' (DE.c (de_var 2 (pv 2)))) (nomark _)) (dss_cons
  (ds_un (is := [5, 6, 7, 8]) rfl (DE.m (de_ix hr (DE.c (de_var 2 (pv 2))) (DE.c (de_var 4 (pv 4))) (fun _ _ => rfl))) (dg_cons (pg_name (i := 5) sc_law_map.nd rfl (by first | exact Or.inl rfl | exact Or.inr rfl)) (dg_cons (pg_name (i := 6) sc_law_map.nd rfl (by first | exact Or.inl rfl | exact Or.inr rfl)) (dg_cons (pg_name (i := 7) sc_law_map.nd rfl (by first | exact Or.inl rfl | exact Or.inr rfl)) (dg_cons (pg_name (i := 8) sc_law_map.nd rfl (by first | exact Or.inl rfl | exact Or.inr rfl)) dg_nil)))))
  (dss_cons
  (ds_if (dt_w (dw_or (dt_cmpO (op_inX hr) oo_in (DE.c (de_var 5 (pv 5))) (dc_var 3 (pv 3)) (by with_unfolding_all rfl)) (dw_or1 (dt_cmpO (op_ninX hr) oo_nin (DE.c (de_var 5 (pv 5))) (DE.c (de_var 0 (pv 0))) (by with_unfolding_all rfl))))) (dss_one (ds_ret (DE.m de_non))) dss_nil)
  (dss_cons
  (ds_app (i := 3) (pv 3) (de_var 5 (pv 5)))
  (dss_cons
  (ds_set (i := 9) sc_law_map.nd rfl (by first | exact Or.inl rfl | exact Or.inr rfl) (DE.m (de_ix hr (DE.c (de_ix hr (DE.c (de_var 0 (pv 0))) (DE.c (de_var 5 (pv 5))) (fun _ _ => rfl))) (DE.c de_int) (fun _ _ => rfl))))
  (dss_cons
  (ds_if (dt_not (dt_val (de_call c_law_fits hr (by decide) rfl (da_cons (de_var 5 (pv 5)) (da_cons (de_var 9 (pv 9)) (da_cons (de_var 6 (pv 6)) (da_cons (de_var 7 (pv 7)) (da_cons (de_var 8 (pv 8)) da_nil)))))))) (dss_one (ds_ret (DE.m de_non))) dss_nil)
  (dss_one (ds_if (dt_cmp (op_eqX hr) os_eq (de_ix hr (DE.c (de_var 9 (pv 9))) (DE.c de_int) (fun _ _ => rfl)) de_str (nomark _)) (dss_one (ds_for PassesOwn.never rfl (di_r1 rfl T.range (de_b1 call_len_seq co_len rfl T.len boot_len' (DE.c (de_ix hr (DE.c (de_var 9 (pv 9))) (DE.c de_int) (fun _ _ => rfl))))) (pg_name (i := 10) sc_law_map.nd rfl (by first | exact Or.inl rfl | exact Or.inr rfl)) (tg_name 10) (dss_one (ds_put (i := 1) hr (pv 1) (de_ix hr (DE.c (de_ix hr (DE.c (de_var 9 (pv 9))) (DE.c de_int) (fun _ _ => rfl))) (DE.c (de_var 10 (pv 10))) (fun _ _ => rfl)) (de_ix hr (DE.c (de_ix hr (DE.c (de_var 9 (pv 9))) (DE.c de_int) (fun _ _ => rfl))) (DE.c (de_var 10 (pv 10))) (fun _ _ => rfl)))))) (dss_one (ds_set (i := 2) sc_law_map.nd rfl (by first | exact Or.inl rfl | exact Or.inr rfl) (DE.m (de_bin op_addD os_add (de_var 2 (pv 2)) (de_call c_law_below hr (by decide) rfl (da_cons (de_var 9 (pv 9)) (da_cons (de_ix hr (DE.c (de_var 9 (pv 9))) (DE.c de_int) (fun _ _ => rfl)) da_nil)))))))))))))) dss_nil)))
  (dss_cons
  (ds_setLcK (j := 11) rfl sc_law_map.nd rfl rfl (sw_true rfl rfl rfl (by decide +kernel)) (pv 0) (dk_var 0) (blkOk_by (own := [("_law_page", 5)]) (N := N_law_map) (sc := defScope s_law_map) (by decide +kernel)) (fun _ _ _ _ _ => pg_name (i := 5) sc_law_map.nd rfl (Or.inl rfl)) (fun _ _ _ _ _ => dts_one (dt_cmp (op_neX hr) os_ne (de_ix hr (DE.c (de_ix hr (DE.c (de_ix hr (DE.c (de_var 0 (pv 0))) (DE.c (de_var 5 (pv 5))) (fun _ _ => rfl))) (DE.c de_int) (fun _ _ => rfl))) (DE.c de_int) (fun _ _ => rfl)) de_str (nomark _))) (fun _ _ _ _ _ => (de_var 5 (pv 5))))
  (dss_cons
  (ds_if (dt_cmp (op_neX hr) os_ne (de_b1 (cr_sortedX rfl) co_sorted rfl T.sorted boot_sorted' (dc_var 3 (pv 3))) (de_b1 (cr_sortedX rfl) co_sorted rfl T.sorted boot_sorted' (DE.c (de_var 11 (pv 11)))) (nomark _)) (dss_one (ds_ret (DE.m de_non))) dss_nil)
  (dss_one (ds_ret (DE.m (de_var 1 (pv 1)))))))))))
theorem sc_law_start : FnScope N_law_start [] (defScope s_law_start) := ⟨rfl, rfl, rfl, by decide +kernel, rfl, by decide +kernel, by decide +kernel⟩
theorem ok_law_start {f : Addr} {fd : FuncData} (T : Txt P w K mg base) (F : FunD K "_law_start" "_law_start" (defArgs s_law_start) (defBody s_law_start) (defScope s_law_start) [] [] f fd) (hm : mg "_law_start" = some (.ref f))
     :
    Cal P w K mg base "_law_start" [] 1 (spP K fn_law_start) :=
  cal_of F hm sc_law_start (F.bindsN fun _ _ _ _ _ _ us hl => match us, hl with | [], _ => rfl) fun cdv A outer s H E (hr : Room 0 _) =>
  (dss_one (ds_ret (DE.m (de_dic1 de_int (de_tup (da_cons de_int (da_cons (de_tup (da_cons de_str (da_cons de_non (da_cons de_non (da_cons (de_tup da_nil) (da_cons (de_tup da_nil) da_nil)))))) da_nil)))))))
theorem sc_law_filled : FnScope N_law_filled ["_law_cell_here"] (defScope s_law_filled) := ⟨rfl, rfl, rfl, by decide +kernel, rfl, by decide +kernel, by decide +kernel⟩
theorem ok_law_filled {f : Addr} {fd : FuncData} (T : Txt P w K mg base) (F : FunD K "_law_filled" "_law_filled" (defArgs s_law_filled) (defBody s_law_filled) (defScope s_law_filled) [] [] f fd) (hm : mg "_law_filled" = some (.ref f))
    (c_law_digits : Cal P w K mg base "_law_digits" ["_law_cell_here", "_law_bases"] 1 (spP K fn_law_digits))
    (c_law_start : Cal P w K mg base "_law_start" [] 1 (spP K fn_law_start))
    (c_law_planned : Cal P w K mg base "_law_planned" ["_law_pages", "_law_call_here"] 12 (spP K fn_law_planned))
    (c_law_applied : Cal P w K mg base "_law_applied" ["_law_pages", "_law_entries"] 3 (spP K fn_law_applied)) :
    Cal P w K mg base "_law_filled" ["_law_cell_here"] 13 (spP K fn_law_filled) :=
  cal_of F hm sc_law_filled (F.bindsN fun _ _ _ _ _ _ us hl => match us, hl with | [_], _ => rfl) fun cdv A outer s H E (hr : Room 12 _) =>
  (dss_cons
  (ds_set (i := 1) sc_law_filled.nd rfl (by first | exact Or.inl rfl | exact Or.inr rfl) (DE.m (de_call c_law_digits hr (by decide) rfl (da_cons (de_var 0 (pv 0)) (da_cons (de_lst (da_cons de_int (da_cons de_int (da_cons de_int (da_cons de_int da_nil))))) da_nil)))))
  (dss_cons
  (ds_set (i := 2) sc_law_filled.nd rfl (by first | exact Or.inl rfl | exact Or.inr rfl) (DE.m (de_call0 c_law_start hr (by decide) rfl)))
  (dss_cons
  (ds_ownD (i := 3) sc_law_filled.nd rfl (by first | exact Or.inl rfl | exact Or.inr rfl))
  (dss_cons
  (ds_set (i := 4) sc_law_filled.nd rfl (by first | exact Or.inl rfl | exact Or.inr rfl) (DE.m (de_bin op_mod os_mod (de_ix hr (DE.c (de_var 1 (pv 1))) (DE.c de_int) (fun _ _ => rfl)) de_int)))
  (dss_cons
  (ds_if (dt_cmp (op_eqX hr) os_eq (de_ix hr (DE.c (de_var 1 (pv 1))) (DE.c de_int) (fun _ _ => rfl)) de_int (nomark _)) (dss_one (ds_set (i := 4) sc_law_filled.nd rfl (by first | exact Or.inl rfl | exact Or.inr rfl) (DE.m (de_ix hr (DE.c (de_var 1 (pv 1))) (DE.c de_int) (fun _ _ => rfl))))) dss_nil)
  (dss_cons
  (ds_for PassesOwn.never rfl (di_r1 rfl T.range (de_var 4 (pv 4))) (pg_name (i := 5) sc_law_filled.nd rfl (by first | exact Or.inl rfl | exact Or.inr rfl)) (tg_name 5) (dss_cons
  (ds_set (i := 6) sc_law_filled.nd rfl (by first | exact Or.inl rfl | exact Or.inr rfl) (DE.m (de_bin op_sub os_sub (de_bin op_mul os_mul (de_bin op_mod os_mod (de_bin op_addD os_add (de_bin op_mul os_mul (de_var 5 (pv 5)) (de_bin op_addD os_add (de_bin op_mul os_mul de_int (de_ix hr (DE.c (de_var 1 (pv 1))) (DE.c de_int) (fun _ _ => rfl))) de_int)) (de_ix hr (DE.c (de_var 1 (pv 1))) (DE.c de_int) (fun _ _ => rfl))) de_int) de_int) de_int)))
  (dss_cons
  (ds_set (i := 7) sc_law_filled.nd rfl (by first | exact Or.inl rfl | exact Or.inr rfl) (DE.m (de_call c_law_planned hr (by decide) rfl (da_cons (de_var 2 (pv 2)) (da_cons (de_tup (da_cons de_str (da_cons (de_var 6 (pv 6)) (da_cons (de_var 5 (pv 5)) da_nil)))) da_nil)))))
  (dss_cons
  (ds_if (dt_cmp (op_eqX hr) os_eq (de_ix hr (DE.c (de_var 7 (pv 7))) (DE.c de_int) (fun _ _ => rfl)) de_str (nomark _)) (dss_cons
  (ds_set (i := 2) sc_law_filled.nd rfl (by first | exact Or.inl rfl | exact Or.inr rfl) (DE.m (de_call c_law_applied hr (by decide) rfl (da_cons (de_var 2 (pv 2)) (da_cons (de_ix hr (DE.c (de_var 7 (pv 7))) (DE.c de_int) (fun _ _ => rfl)) da_nil)))))
  (dss_one (ds_if (dt_cmp op_isN os_isN (de_var 2 (pv 2)) de_non (nomark _)) (dss_one (ds_ret (DE.m (de_tup (da_cons de_non (da_cons (de_var 3 (pv 3)) da_nil)))))) dss_nil))) dss_nil)
  (dss_one (ds_put (i := 3) hr (pv 3) (de_var 6 (pv 6)) (de_var 5 (pv 5))))))))
  (dss_one (ds_ret (DE.m (de_tup (da_cons (de_var 2 (pv 2)) (da_cons (de_var 3 (pv 3)) da_nil))))))))))))
theorem sc_law_pages_of : FnScope N_law_pages_of ["_law_told"] (defScope s_law_pages_of) := ⟨rfl, rfl, rfl, by decide +kernel, rfl, by decide +kernel, by decide +kernel⟩
theorem ok_law_pages_of {f : Addr} {fd : FuncData} (T : Txt P w K mg base) (F : FunD K "_law_pages_of" "_law_pages_of" (defArgs s_law_pages_of) (defBody s_law_pages_of) (defScope s_law_pages_of) [] [] f fd) (hm : mg "_law_pages_of" = some (.ref f))
     :
    Cal P w K mg base "_law_pages_of" ["_law_told"] 1 (spP K fn_law_pages_of) :=
  cal_of F hm sc_law_pages_of (F.bindsN fun _ _ _ _ _ _ us hl => match us, hl with | [_], _ => rfl) fun cdv A outer s H E (hr : Room 0 _) =>
  (dss_one (ds_ret (DE.m (de_lc rfl sc_law_pages_of.nd (di_list (de_ix hr (DE.c (de_var 0 (pv 0))) (DE.c de_int) (fun _ _ => rfl))) (blkOk_by (own := [("_law_entry", 1)]) (N := N_law_pages_of) (sc := defScope s_law_pages_of) (by decide +kernel)) (fun _ _ _ _ _ => pg_name (i := 1) sc_law_pages_of.nd rfl (Or.inl rfl)) (fun _ _ _ _ _ => dts_one (dt_cmp op_ge os_ge (de_ix hr (DE.c (de_var 1 (pv 1))) (DE.c de_int) (fun _ _ => rfl)) de_int (nomark _))) (fun _ _ _ _ _ => (de_ix hr (DE.c (de_var 1 (pv 1))) (DE.c de_int) (fun _ _ => rfl)))))))
theorem sc_law_both : FnScope N_law_both ["_law_pages", "_law_first", "_law_second", "_law_table"] (defScope s_law_both) := ⟨rfl, rfl, rfl, by decide +kernel, rfl, by decide +kernel, by decide +kernel⟩
theorem ok_law_both {f : Addr} {fd : FuncData} (T : Txt P w K mg base) (F : FunD K "_law_both" "_law_both" (defArgs s_law_both) (defBody s_law_both) (defScope s_law_both) [] [] f fd) (hm : mg "_law_both" = some (.ref f))
    (c_law_applied : Cal P w K mg base "_law_applied" ["_law_pages", "_law_entries"] 3 (spP K fn_law_applied))
    (c_law_map : Cal P w K mg base "_law_map" ["_law_pages"] 3 (spP K fn_law_map)) :
    Cal P w K mg base "_law_both" ["_law_pages", "_law_first", "_law_second", "_law_table"] 4 (spP K fn_law_both) :=
  cal_of F hm sc_law_both (F.bindsN fun _ _ _ _ _ _ us hl => match us, hl with | [_, _, _, _], _ => rfl) fun cdv A outer s H E (hr : Room 3 _) =>
  (dss_cons
  (ds_set (i := 4) sc_law_both.nd rfl (by first | exact Or.inl rfl | exact Or.inr rfl) (DE.m (de_call c_law_applied hr (by decide) rfl (da_cons (de_var 0 (pv 0)) (da_cons (de_ix hr (DE.c (de_var 1 (pv 1))) (DE.c de_int) (fun _ _ => rfl)) da_nil)))))
  (dss_cons
  (ds_if (dt_w (dw_or (dt_cmp op_isN os_isN (de_var 4 (pv 4)) de_non (nomark _)) (dw_or1 (dt_cmp op_isN os_isN (de_call c_law_map hr (by decide) rfl (da_cons (de_var 4 (pv 4)) da_nil)) de_non (nomark _))))) (dss_one (ds_ret (DE.m de_bl))) dss_nil)
  (dss_cons
  (ds_set (i := 5) sc_law_both.nd rfl (by first | exact Or.inl rfl | exact Or.inr rfl) (DE.m (de_call c_law_applied hr (by decide) rfl (da_cons (de_var 4 (pv 4)) (da_cons (de_ix hr (DE.c (de_var 2 (pv 2))) (DE.c de_int) (fun _ _ => rfl)) da_nil)))))
  (dss_one (ds_ret (DE.m (de_and (de_cmp op_notN os_notN (de_var 5 (pv 5)) de_non (nomark _)) (de_one (de_cmp (op_eq_dictR hr.units0) os_eqDic (de_call c_law_map hr (by decide) rfl (da_cons (de_var 5 (pv 5)) da_nil)) (de_var 3 (pv 3)) (nomark _))))))))))
theorem sc_law_alone : FnScope N_law_alone ["_law_pages", "_law_first", "_law_second"] (defScope s_law_alone) := ⟨rfl, rfl, rfl, by decide +kernel, rfl, by decide +kernel, by decide +kernel⟩
theorem ok_law_alone {f : Addr} {fd : FuncData} (T : Txt P w K mg base) (F : FunD K "_law_alone" "_law_alone" (defArgs s_law_alone) (defBody s_law_alone) (defScope s_law_alone) [] [] f fd) (hm : mg "_law_alone" = some (.ref f))
    (c_law_applied : Cal P w K mg base "_law_applied" ["_law_pages", "_law_entries"] 3 (spP K fn_law_applied))
    (c_law_map : Cal P w K mg base "_law_map" ["_law_pages"] 3 (spP K fn_law_map)) :
    Cal P w K mg base "_law_alone" ["_law_pages", "_law_first", "_law_second"] 4 (spP K fn_law_alone) :=
  cal_of F hm sc_law_alone (F.bindsN fun _ _ _ _ _ _ us hl => match us, hl with | [_, _, _], _ => rfl) fun cdv A outer s H E (hr : Room 3 _) =>
  (dss_cons
  (ds_set (i := 3) sc_law_alone.nd rfl (by first | exact Or.inl rfl | exact Or.inr rfl) (DE.m (de_call c_law_applied hr (by decide) rfl (da_cons (de_var 0 (pv 0)) (da_cons (de_ix hr (DE.c (de_var 1 (pv 1))) (DE.c de_int) (fun _ _ => rfl)) da_nil)))))
  (dss_cons
  (ds_if (dt_w (dw_or (dt_cmp op_isN os_isN (de_var 3 (pv 3)) de_non (nomark _)) (dw_or1 (dt_cmp op_isN os_isN (de_call c_law_map hr (by decide) rfl (da_cons (de_var 3 (pv 3)) da_nil)) de_non (nomark _))))) (dss_one (ds_ret (DE.m de_bl))) dss_nil)
  (dss_one (ds_ret (DE.m (de_cmp op_isN os_isN (de_call c_law_applied hr (by decide) rfl (da_cons (de_var 3 (pv 3)) (da_cons (de_ix hr (DE.c (de_var 2 (pv 2))) (DE.c de_int) (fun _ _ => rfl)) da_nil))) de_non (nomark _)))))))
theorem sc_law : FnScope N_law ["_law_script"] (defScope s_law) := ⟨rfl, rfl, rfl, by decide +kernel, rfl, by decide +kernel, by decide +kernel⟩
theorem ok_law {f : Addr} {fd : FuncData} (T : Txt P w K mg base) (F : FunD K "law" "law" (defArgs s_law) (defBody s_law) (defScope s_law) [] [] f fd)
    (c_law_filled : Cal P w K mg base "_law_filled" ["_law_cell_here"] 13 (spP K fn_law_filled))
    (c_law_cell : Cal P w K mg base "_law_cell" ["_law_script", "_law_k"] 1 (spP K fn_law_cell))
    (c_law_call : Cal P w K mg base "_law_call" ["_law_cell_here", "_law_width", "_law_table"] 2 (spP K fn_law_call))
    (c_law_planned : Cal P w K mg base "_law_planned" ["_law_pages", "_law_call_here"] 12 (spP K fn_law_planned))
    (c_law_many : Cal P w K mg base "_law_many" ["_law_script", "_law_few", "_law_many_here"] 1 (spP K fn_law_many))
    (c_law_applied : Cal P w K mg base "_law_applied" ["_law_pages", "_law_entries"] 3 (spP K fn_law_applied))
    (c_law_due : Cal P w K mg base "_law_due" ["_law_table", "_law_call_here"] 1 (spP K fn_law_due))
    (c_law_pages_of : Cal P w K mg base "_law_pages_of" ["_law_told"] 1 (spP K fn_law_pages_of))
    (c_law_both : Cal P w K mg base "_law_both" ["_law_pages", "_law_first", "_law_second", "_law_table"] 4 (spP K fn_law_both))
    (c_law_alone : Cal P w K mg base "_law_alone" ["_law_pages", "_law_first", "_law_second"] 4 (spP K fn_law_alone)) :
    FnOk P w K mg base CX0 14 f fd ["_law_script"] (spP K fn_law) :=
  fnok_of F sc_law fun cdv A outer s H E (hr : Room 13 _) =>
  (dss_cons
  (ds_un (is := [1, 2]) rfl (DE.m (de_call c_law_filled hr (by decide) rfl (da_cons (de_call c_law_cell hr (by decide) rfl (da_cons (de_var 0 (pv 0)) (da_cons de_int da_nil))) da_nil))) (dg_cons (pg_name (i := 1) sc_law.nd rfl (by first | exact Or.inl rfl | exact Or.inr rfl)) (dg_cons (pg_name (i := 2) sc_law.nd rfl (by first | exact Or.inl rfl | exact Or.inr rfl)) dg_nil)))
  (dss_cons
  (ds_if (dt_cmp op_isN os_isN (de_var 1 (pv 1)) de_non (nomark _)) (dss_one (ds_ret (DE.m de_bl))) dss_nil)
  (dss_cons
  (ds_for PassesOwn.never rfl (di_r1 rfl T.range (de_min2 rfl rfl T.min boot_min' (de_b1 call_len_seq co_len rfl T.len boot_len' (DE.c (de_var 0 (pv 0)))) (de_call c_law_many hr (by decide) rfl (da_cons (de_var 0 (pv 0)) (da_cons de_int (da_cons de_int da_nil)))))) (pg_name (i := 3) sc_law.nd rfl (by first | exact Or.inl rfl | exact Or.inr rfl)) (tg_name 3) (dss_cons
  (ds_set (i := 4) sc_law.nd rfl (by first | exact Or.inl rfl | exact Or.inr rfl) (DE.m (de_call c_law_call hr (by decide) rfl (da_cons (de_bin op_addD os_add (de_call c_law_cell hr (by decide) rfl (da_cons (de_var 0 (pv 0)) (da_cons (de_var 3 (pv 3)) da_nil))) (de_var 3 (pv 3))) (da_cons de_int (da_cons (de_var 2 (pv 2)) da_nil))))))
  (dss_cons
  (ds_set (i := 5) sc_law.nd rfl (by first | exact Or.inl rfl | exact Or.inr rfl) (DE.m (de_call c_law_call hr (by decide) rfl (da_cons (de_bin op_addD os_add (de_bin op_addD os_add (de_bin op_fdiv os_div (de_call c_law_cell hr (by decide) rfl (da_cons (de_var 0 (pv 0)) (da_cons (de_var 3 (pv 3)) da_nil))) de_int) (de_bin op_mul os_mul de_int (de_var 3 (pv 3)))) de_int) (da_cons de_int (da_cons (de_var 2 (pv 2)) da_nil))))))
  (dss_cons
  (ds_set (i := 6) sc_law.nd rfl (by first | exact Or.inl rfl | exact Or.inr rfl) (DE.m (de_call c_law_planned hr (by decide) rfl (da_cons (de_var 1 (pv 1)) (da_cons (de_var 4 (pv 4)) da_nil)))))
  (dss_cons
  (ds_set (i := 7) sc_law.nd rfl (by first | exact Or.inl rfl | exact Or.inr rfl) (DE.m (de_call c_law_planned hr (by decide) rfl (da_cons (de_var 1 (pv 1)) (da_cons (de_var 5 (pv 5)) da_nil)))))
  (dss_cons
  (ds_if (dt_w (dw_and (dt_cmp (op_eqX hr) os_eq (de_ix hr (DE.c (de_var 6 (pv 6))) (DE.c de_int) (fun _ _ => rfl)) de_str (nomark _)) (dw_and1 (dt_cmp (op_eqX hr) os_eq (de_ix hr (DE.c (de_var 7 (pv 7))) (DE.c de_int) (fun _ _ => rfl)) de_str (nomark _))))) (dss_cons
  (ds_setLc (j := 8) rfl sc_law.nd rfl rfl (sw_true rfl rfl rfl (by decide +kernel)) (di_list (de_call c_law_pages_of hr (by decide) rfl (da_cons (de_var 6 (pv 6)) da_nil))) (blkOk_by (own := [("_law_page", 9)]) (N := N_law) (sc := defScope s_law) (by decide +kernel)) (fun _ _ _ _ _ => pg_name (i := 9) sc_law.nd rfl (Or.inl rfl)) (fun _ _ _ _ _ => dts_one (dt_cmpO (op_inX hr) oo_in (DE.c (de_var 9 (pv 9))) (DE.c (de_call c_law_pages_of hr (by decide) rfl (da_cons (de_var 7 (pv 7)) da_nil))) (by with_unfolding_all rfl))) (fun _ _ _ _ _ => (de_var 9 (pv 9))))
  (dss_cons
  (ds_set (i := 10) sc_law.nd rfl (by first | exact Or.inl rfl | exact Or.inr rfl) (DE.m (de_ix hr (DE.c (de_call c_law_due hr (by decide) rfl (da_cons (de_ix hr (DE.c (de_call c_law_due hr (by decide) rfl (da_cons (de_var 2 (pv 2)) (da_cons (de_var 4 (pv 4)) da_nil)))) (DE.c de_int) (fun _ _ => rfl)) (da_cons (de_var 5 (pv 5)) da_nil)))) (DE.c de_int) (fun _ _ => rfl))))
  (dss_one (ds_if (dt_cmp (op_eqX hr) os_eq (de_var 8 (pv 8)) (de_lst da_nil) (nomark _)) (dss_one (ds_if (dt_w (dw_or (dt_not (dt_val (de_call c_law_both hr (by decide) rfl (da_cons (de_var 1 (pv 1)) (da_cons (de_var 6 (pv 6)) (da_cons (de_var 7 (pv 7)) (da_cons (de_var 10 (pv 10)) da_nil))))))) (dw_or1 (dt_not (dt_val (de_call c_law_both hr (by decide) rfl (da_cons (de_var 1 (pv 1)) (da_cons (de_var 7 (pv 7)) (da_cons (de_var 6 (pv 6)) (da_cons (de_var 10 (pv 10)) da_nil)))))))))) (dss_one (ds_ret (DE.m de_bl))) dss_nil)) (dss_one (ds_if (dt_w (dw_or (dt_not (dt_val (de_call c_law_alone hr (by decide) rfl (da_cons (de_var 1 (pv 1)) (da_cons (de_var 6 (pv 6)) (da_cons (de_var 7 (pv 7)) da_nil)))))) (dw_or1 (dt_not (dt_val (de_call c_law_alone hr (by decide) rfl (da_cons (de_var 1 (pv 1)) (da_cons (de_var 7 (pv 7)) (da_cons (de_var 6 (pv 6)) da_nil))))))))) (dss_one (ds_ret (DE.m de_bl))) dss_nil)))))) dss_nil)
  (dss_one (ds_if (dt_cmp (op_eqX hr) os_eq (de_ix hr (DE.c (de_var 6 (pv 6))) (DE.c de_int) (fun _ _ => rfl)) de_str (nomark _)) (dss_cons
  (ds_set (i := 1) sc_law.nd rfl (by first | exact Or.inl rfl | exact Or.inr rfl) (DE.m (de_call c_law_applied hr (by decide) rfl (da_cons (de_var 1 (pv 1)) (da_cons (de_ix hr (DE.c (de_var 6 (pv 6))) (DE.c de_int) (fun _ _ => rfl)) da_nil)))))
  (dss_one (ds_set (i := 2) sc_law.nd rfl (by first | exact Or.inl rfl | exact Or.inr rfl) (DE.m (de_ix hr (DE.c (de_call c_law_due hr (by decide) rfl (da_cons (de_var 2 (pv 2)) (da_cons (de_var 4 (pv 4)) da_nil)))) (DE.c de_int) (fun _ _ => rfl)))))) dss_nil))))))))
  (dss_one (ds_ret (DE.m de_bl))))))
end
end K32
end
section
set_option Elab.async false
set_option linter.all false
set_option maxRecDepth 100000
set_option maxHeartbeats 0
/-! the head: what the top leaves, by facts -/
namespace K32
open PySem PySem.Spec PyProof.Rows L2
namespace Hd
def d_is_integer : He.DefD := ⟨("is_integer", none), "is_integer", "is_integer", defArgs s_is_integer, defBody s_is_integer, defScope s_is_integer, [], []⟩
def d_is_bound : He.DefD := ⟨("is_bound", none), "is_bound", "is_bound", defArgs s_is_bound, defBody s_is_bound, defScope s_is_bound, [], []⟩
def d_are_integers : He.DefD := ⟨("are_integers", none), "are_integers", "are_integers", defArgs s_are_integers, defBody s_are_integers, defScope s_are_integers, [], []⟩
def d_are_ascending : He.DefD := ⟨("are_ascending", none), "are_ascending", "are_ascending", defArgs s_are_ascending, defBody s_are_ascending, defScope s_are_ascending, [], []⟩
def d_is_above : He.DefD := ⟨("is_above", none), "is_above", "is_above", defArgs s_is_above, defBody s_is_above, defScope s_is_above, [], []⟩
def d_is_below : He.DefD := ⟨("is_below", none), "is_below", "is_below", defArgs s_is_below, defBody s_is_below, defScope s_is_below, [], []⟩
def d_is_leaf : He.DefD := ⟨("is_leaf", none), "is_leaf", "is_leaf", defArgs s_is_leaf, defBody s_is_leaf, defScope s_is_leaf, [], []⟩
def d_is_inner : He.DefD := ⟨("is_inner", none), "is_inner", "is_inner", defArgs s_is_inner, defBody s_is_inner, defScope s_is_inner, [], []⟩
def d_is_record : He.DefD := ⟨("is_record", none), "is_record", "is_record", defArgs s_is_record, defBody s_is_record, defScope s_is_record, [], []⟩
def d_checked : He.DefD := ⟨("checked", none), "checked", "checked", defArgs s_checked, defBody s_checked, defScope s_checked, [], []⟩
def d_leaf : He.DefD := ⟨("leaf", none), "leaf", "leaf", defArgs s_leaf, defBody s_leaf, defScope s_leaf, [], []⟩
def d_inner : He.DefD := ⟨("inner", none), "inner", "inner", defArgs s_inner, defBody s_inner, defScope s_inner, [], []⟩
def d_level_of : He.DefD := ⟨("level_of", none), "level_of", "level_of", defArgs s_level_of, defBody s_level_of, defScope s_level_of, [], []⟩
def d_bounds_of : He.DefD := ⟨("bounds_of", none), "bounds_of", "bounds_of", defArgs s_bounds_of, defBody s_bounds_of, defScope s_bounds_of, [], []⟩
def d_size_of : He.DefD := ⟨("size_of", none), "size_of", "size_of", defArgs s_size_of, defBody s_size_of, defScope s_size_of, [], []⟩
def d_value_in : He.DefD := ⟨("value_in", none), "value_in", "value_in", defArgs s_value_in, defBody s_value_in, defScope s_value_in, [], []⟩
def d_place_of : He.DefD := ⟨("place_of", none), "place_of", "place_of", defArgs s_place_of, defBody s_place_of, defScope s_place_of, [], []⟩
def d_child_bounds : He.DefD := ⟨("child_bounds", none), "child_bounds", "child_bounds", defArgs s_child_bounds, defBody s_child_bounds, defScope s_child_bounds, [], []⟩
def d_with_value : He.DefD := ⟨("with_value", none), "with_value", "with_value", defArgs s_with_value, defBody s_with_value, defScope s_with_value, [], []⟩
def d_without_key : He.DefD := ⟨("without_key", none), "without_key", "without_key", defArgs s_without_key, defBody s_without_key, defScope s_without_key, [], []⟩
def d_with_child : He.DefD := ⟨("with_child", none), "with_child", "with_child", defArgs s_with_child, defBody s_with_child, defScope s_with_child, [], []⟩
def d_without_child : He.DefD := ⟨("without_child", none), "without_child", "without_child", defArgs s_without_child, defBody s_without_child, defScope s_without_child, [], []⟩
def d_with_separator : He.DefD := ⟨("with_separator", none), "with_separator", "with_separator", defArgs s_with_separator, defBody s_with_separator, defScope s_with_separator, [], []⟩
def d_cut : He.DefD := ⟨("cut", none), "cut", "cut", defArgs s_cut, defBody s_cut, defScope s_cut, [], []⟩
def d_joined : He.DefD := ⟨("joined", none), "joined", "joined", defArgs s_joined, defBody s_joined, defScope s_joined, [], []⟩
def d_leaf_change : He.DefD := ⟨("leaf_change", none), "leaf_change", "leaf_change", defArgs s_leaf_change, defBody s_leaf_change, defScope s_leaf_change, [], []⟩
def d_most_of : He.DefD := ⟨("most_of", none), "most_of", "most_of", defArgs s_most_of, defBody s_most_of, defScope s_most_of, [], []⟩
def d_Draft_init : He.DefD := ⟨("Draft", some "__init__"), "__init__", "Draft.__init__", defArgs s_Draft_init, defBody s_Draft_init, defScope s_Draft_init, [], []⟩
def d_Draft_give : He.DefD := ⟨("Draft", some "give"), "give", "Draft.give", defArgs s_Draft_give, defBody s_Draft_give, defScope s_Draft_give, [], []⟩
def d_Draft_add_page : He.DefD := ⟨("Draft", some "add_page"), "add_page", "Draft.add_page", defArgs s_Draft_add_page, defBody s_Draft_add_page, defScope s_Draft_add_page, [], []⟩
def d_Draft_entries : He.DefD := ⟨("Draft", some "entries"), "entries", "Draft.entries", defArgs s_Draft_entries, defBody s_Draft_entries, defScope s_Draft_entries, [], []⟩
def d_Draft_place_in_parent : He.DefD := ⟨("Draft", some "place_in_parent"), "place_in_parent", "Draft.place_in_parent", defArgs s_Draft_place_in_parent, defBody s_Draft_place_in_parent, defScope s_Draft_place_in_parent, [], []⟩
def d_Draft_settle : He.DefD := ⟨("Draft", some "settle"), "settle", "Draft.settle", defArgs s_Draft_settle, defBody s_Draft_settle, defScope s_Draft_settle, [], []⟩
def d_Draft_divide : He.DefD := ⟨("Draft", some "divide"), "divide", "Draft.divide", defArgs s_Draft_divide, defBody s_Draft_divide, defScope s_Draft_divide, [], []⟩
def d_Draft_unite : He.DefD := ⟨("Draft", some "unite"), "unite", "Draft.unite", defArgs s_Draft_unite, defBody s_Draft_unite, defScope s_Draft_unite, [], []⟩
def d_Draft_unite_pair : He.DefD := ⟨("Draft", some "unite_pair"), "unite_pair", "Draft.unite_pair", defArgs s_Draft_unite_pair, defBody s_Draft_unite_pair, defScope s_Draft_unite_pair, [], []⟩
def d_plan : He.DefD := ⟨("plan", none), "plan", "plan", defArgs s_plan, defBody s_plan, defScope s_plan, [], []⟩
def d_new_pages : He.DefD := ⟨("new_pages", none), "new_pages", "new_pages", defArgs s_new_pages, defBody s_new_pages, defScope s_new_pages, [], []⟩
def d_real_page : He.DefD := ⟨("real_page", none), "real_page", "real_page", defArgs s_real_page, defBody s_real_page, defScope s_real_page, [], []⟩
def d_placed : He.DefD := ⟨("placed", none), "placed", "placed", defArgs s_placed, defBody s_placed, defScope s_placed, [], []⟩
def d_law_cell : He.DefD := ⟨("_law_cell", none), "_law_cell", "_law_cell", defArgs s_law_cell, defBody s_law_cell, defScope s_law_cell, [], []⟩
def d_law_digits : He.DefD := ⟨("_law_digits", none), "_law_digits", "_law_digits", defArgs s_law_digits, defBody s_law_digits, defScope s_law_digits, [], []⟩
def d_law_many : He.DefD := ⟨("_law_many", none), "_law_many", "_law_many", defArgs s_law_many, defBody s_law_many, defScope s_law_many, [], []⟩
def d_law_call : He.DefD := ⟨("_law_call", none), "_law_call", "_law_call", defArgs s_law_call, defBody s_law_call, defScope s_law_call, [], []⟩
def d_law_due : He.DefD := ⟨("_law_due", none), "_law_due", "_law_due", defArgs s_law_due, defBody s_law_due, defScope s_law_due, [], []⟩
def d_law_covers : He.DefD := ⟨("_law_covers", none), "_law_covers", "_law_covers", defArgs s_law_covers, defBody s_law_covers, defScope s_law_covers, [], []⟩
def d_law_walk : He.DefD := ⟨("_law_walk", none), "_law_walk", "_law_walk", defArgs s_law_walk, defBody s_law_walk, defScope s_law_walk, [], []⟩
def d_law_planned : He.DefD := ⟨("_law_planned", none), "_law_planned", "_law_planned", defArgs s_law_planned, defBody s_law_planned, defScope s_law_planned, [], []⟩
def d_law_free : He.DefD := ⟨("_law_free", none), "_law_free", "_law_free", defArgs s_law_free, defBody s_law_free, defScope s_law_free, [], []⟩
def d_law_applied : He.DefD := ⟨("_law_applied", none), "_law_applied", "_law_applied", defArgs s_law_applied, defBody s_law_applied, defScope s_law_applied, [], []⟩
def d_law_ascending : He.DefD := ⟨("_law_ascending", none), "_law_ascending", "_law_ascending", defArgs s_law_ascending, defBody s_law_ascending, defScope s_law_ascending, [], []⟩
def d_law_below : He.DefD := ⟨("_law_below", none), "_law_below", "_law_below", defArgs s_law_below, defBody s_law_below, defScope s_law_below, [], []⟩
def d_law_fits : He.DefD := ⟨("_law_fits", none), "_law_fits", "_law_fits", defArgs s_law_fits, defBody s_law_fits, defScope s_law_fits, [], []⟩
def d_law_map : He.DefD := ⟨("_law_map", none), "_law_map", "_law_map", defArgs s_law_map, defBody s_law_map, defScope s_law_map, [], []⟩
def d_law_start : He.DefD := ⟨("_law_start", none), "_law_start", "_law_start", defArgs s_law_start, defBody s_law_start, defScope s_law_start, [], []⟩
def d_law_filled : He.DefD := ⟨("_law_filled", none), "_law_filled", "_law_filled", defArgs s_law_filled, defBody s_law_filled, defScope s_law_filled, [], []⟩
def d_law_pages_of : He.DefD := ⟨("_law_pages_of", none), "_law_pages_of", "_law_pages_of", defArgs s_law_pages_of, defBody s_law_pages_of, defScope s_law_pages_of, [], []⟩
def d_law_both : He.DefD := ⟨("_law_both", none), "_law_both", "_law_both", defArgs s_law_both, defBody s_law_both, defScope s_law_both, [], []⟩
def d_law_alone : He.DefD := ⟨("_law_alone", none), "_law_alone", "_law_alone", defArgs s_law_alone, defBody s_law_alone, defScope s_law_alone, [], []⟩
def d_law : He.DefD := ⟨("law", none), "law", "law", defArgs s_law, defBody s_law, defScope s_law, [], []⟩
def fn0 : List He.DefD := [d_is_integer, d_is_bound, d_are_integers, d_are_ascending, d_is_above, d_is_below, d_is_leaf, d_is_inner, d_is_record, d_checked, d_leaf, d_inner, d_level_of, d_bounds_of, d_size_of, d_value_in]
def fn1 : List He.DefD := [d_place_of, d_child_bounds, d_with_value, d_without_key, d_with_child, d_without_child, d_with_separator, d_cut, d_joined, d_leaf_change, d_most_of, d_Draft_init, d_Draft_give, d_Draft_add_page, d_Draft_entries, d_Draft_place_in_parent]
def fn2 : List He.DefD := [d_Draft_settle, d_Draft_divide, d_Draft_unite, d_Draft_unite_pair, d_plan, d_new_pages, d_real_page, d_placed, d_law_cell, d_law_digits, d_law_many, d_law_call, d_law_due, d_law_covers, d_law_walk, d_law_planned]
def fn3 : List He.DefD := [d_law_free, d_law_applied, d_law_ascending, d_law_below, d_law_fits, d_law_map, d_law_start, d_law_filled, d_law_pages_of, d_law_both, d_law_alone, d_law]
def fn : List He.DefD := fn0 ++ (fn1 ++ (fn2 ++ (fn3)))
def fa0 : List He.Fa := [.glo "is_integer", .glo "is_bound", .glo "are_integers", .glo "are_ascending", .glo "is_above", .glo "is_below", .glo "is_leaf", .glo "is_inner", .glo "is_record", .glo "checked", .glo "leaf", .glo "inner", .glo "level_of", .glo "bounds_of", .glo "size_of", .glo "value_in"]
def fa1 : List He.Fa := [.glo "place_of", .glo "child_bounds", .glo "with_value", .glo "without_key", .glo "with_child", .glo "without_child", .glo "with_separator", .glo "cut", .glo "joined", .glo "leaf_change", .glo "most_of", .glo "plan", .glo "new_pages", .glo "real_page", .glo "placed", .glo "_law_cell"]
def fa2 : List He.Fa := [.glo "_law_digits", .glo "_law_many", .glo "_law_call", .glo "_law_due", .glo "_law_covers", .glo "_law_walk", .glo "_law_planned", .glo "_law_free", .glo "_law_applied", .glo "_law_ascending", .glo "_law_below", .glo "_law_fits", .glo "_law_map", .glo "_law_start", .glo "_law_filled", .glo "_law_pages_of"]
def fa3 : List He.Fa := [.glo "_law_both", .glo "_law_alone", .glo "law", .free "len", .free "isinstance", .free "all", .free "range", .free "tuple", .free "list", .free "dict", .free "sorted", .free "max", .free "min", .free "int", .free "bool", .int "LEAF_MOST" 4]
def fa4 : List He.Fa := [.int "INNER_MOST" 5, .int "LEAST" 2, .glo "Draft", .cls "Draft", .mkr "Draft", .noat "Draft" "path", .noat "Draft" "siblings", .noat "Draft" "records", .noat "Draft" "addresses", .noat "Draft" "fresh", .meth "Draft" "give", .meth "Draft" "add_page", .meth "Draft" "entries", .meth "Draft" "place_in_parent", .meth "Draft" "settle", .meth "Draft" "divide"]
def fa5 : List He.Fa := [.meth "Draft" "unite", .meth "Draft" "unite_pair"]
def fa : List He.Fa := fa0 ++ (fa1 ++ (fa2 ++ (fa3 ++ (fa4 ++ (fa5)))))
def loose0 : List PySem.Str := ["EspalierError", "Broken", "LEAF_MOST", "INNER_MOST", "LEAST", "is_integer", "is_bound", "are_integers", "are_ascending", "is_above", "is_below", "is_leaf", "is_inner", "is_record", "checked", "leaf", "inner", "level_of", "bounds_of", "size_of", "value_in", "place_of", "child_bounds", "with_value", "without_key", "with_child", "without_child", "with_separator", "cut", "joined"]
def loose1 : List PySem.Str := ["leaf_change", "most_of", "Draft", "plan", "new_pages", "real_page", "placed", "_law_cell", "_law_digits", "_law_many", "_law_call", "_law_due", "_law_covers", "_law_walk", "_law_planned", "_law_free", "_law_applied", "_law_ascending", "_law_below", "_law_fits", "_law_map", "_law_start", "_law_filled", "_law_pages_of", "_law_both", "_law_alone"]
def loose : List PySem.Str := loose0 ++ (loose1)
abbrev R : PySem.W.OpenRow := PySem.W.OpenLaw.row PySem.Challenge.rw_espalier_k32_whole_plans_that_commute
abbrev hk : PySem.W.Hook := He.hookD 5 fa fn
def ob (s : PySem.W.SharedT) : He.AlD := He.obsDG 5 fa fn (HandSHeadRun.getT s)
theorem ob_eq (s : PySem.W.SharedT) : ob s = hk.obs s.abs := He.obsDG_eq (HandSHeadRun.getT_eq s)
theorem run (w : World) : HandSHeadRun.RunEq R (PySem.W.view R.prog [60]) hk ob 4000 loose w := by
  intro os
  kernel_rfl
end Hd
end K32
end
section
set_option Elab.async false
set_option linter.all false
set_option maxRecDepth 100000
set_option maxHeartbeats 0
/-! all defs keep their promises, by the head's facts -/
namespace K32
open PySem PySem.Spec PyProof.Rows L2
def spLaw (K : PySem.W.Frag) : Sp := fun vs H Q _ => ∃ (a : Addr) (ns : List Int), vs = [.ref a] ∧ SqL K H a (ns.map V.int) ∧ ns.length ≤ 63 ∧ ∀ H', Q (.bl true) H'
def noDk : HO → Option HO
  | .frz _ (.dK _) => none
  | o => some o
theorem noDk_some {o u : HO} (h : noDk o = some u) : o = u ∧ ∀ ob kvs, u ≠ .frz ob (.dK kvs) := by
  unfold noDk at h
  split at h
  · cases h
  · rename_i x hx
    cases h
    exact ⟨rfl, fun ob kvs e => hx ob kvs e⟩
/-- the law's own promise, from what it reckons -/
theorem law_sp {K : PySem.W.Frag} (pl : ∀ ns : List Int, ns.length ≤ 63 → fn_law [.scr ns] = some (.bl true)) (vs : List V) (H : Hp) (Q : VK) (E : XK) (h : spLaw K vs H Q E) : spP K fn_law vs H Q E := by
  obtain ⟨a, ns, rfl, hs, hl, k⟩ := h
  refine ⟨fun b => (H b).bind noDk, [.scr ns], .bl true, fun b o e => ?_, fun b o kvs e => ?_, .cons (.scr ?_) .nil, pl ns hl, fun v F' H' t r => ?_⟩
  · obtain ⟨u, e1, e2⟩ := Option.bind_eq_some_iff.mp e
    rw [e1, (noDk_some e2).1]
  · obtain ⟨u, e1, e2⟩ := Option.bind_eq_some_iff.mp e
    exact (noDk_some e2).2 o kvs rfl
  · rcases hs with (hs | ⟨ob, hs⟩) | hs
    · exact .inl (.inl (by show (H a).bind noDk = _; rw [hs]; rfl))
    · exact .inl (.inr ⟨ob, by show (H a).bind noDk = _; rw [hs]; rfl⟩)
    · exact .inr hs
  · cases r
    exact k H'
theorem facts (pl : ∀ ns : List Int, ns.length ≤ 63 → fn_law [.scr ns] = some (.bl true)) {P : Program} {w : World} {K : PySem.W.Frag} {h : Heap} {mg : Str → Option Value} {f : Addr} (X : K.In h) (G : h.Ns mainGlobals mg) (hfa : mg ("law" : Str) = some (.ref f)) (c : He.SaysD Hd.fa Hd.fn K) :
    ∃ fd : FuncData, (∀ (s : Shared) (v : Value), BindsTo s fd ⟨[v], []⟩ [("_law_script", v)]) ∧ ∀ base : Heap, K.In base → base.Ns mainGlobals mg → FnOk P w K mg base CX0 14 f fd ["_law_script"] (spLaw K) := by
  obtain ⟨fd_is_integer, F_is_integer⟩ := c.def_ 0 (d := Hd.d_is_integer) rfl
  obtain ⟨fd_is_bound, F_is_bound⟩ := c.def_ 1 (d := Hd.d_is_bound) rfl
  obtain ⟨fd_are_integers, F_are_integers⟩ := c.def_ 2 (d := Hd.d_are_integers) rfl
  obtain ⟨fd_are_ascending, F_are_ascending⟩ := c.def_ 3 (d := Hd.d_are_ascending) rfl
  obtain ⟨fd_is_above, F_is_above⟩ := c.def_ 4 (d := Hd.d_is_above) rfl
  obtain ⟨fd_is_below, F_is_below⟩ := c.def_ 5 (d := Hd.d_is_below) rfl
  obtain ⟨fd_is_leaf, F_is_leaf⟩ := c.def_ 6 (d := Hd.d_is_leaf) rfl
  obtain ⟨fd_is_inner, F_is_inner⟩ := c.def_ 7 (d := Hd.d_is_inner) rfl
  obtain ⟨fd_is_record, F_is_record⟩ := c.def_ 8 (d := Hd.d_is_record) rfl
  obtain ⟨fd_checked, F_checked⟩ := c.def_ 9 (d := Hd.d_checked) rfl
  obtain ⟨fd_leaf, F_leaf⟩ := c.def_ 10 (d := Hd.d_leaf) rfl
  obtain ⟨fd_inner, F_inner⟩ := c.def_ 11 (d := Hd.d_inner) rfl
  obtain ⟨fd_level_of, F_level_of⟩ := c.def_ 12 (d := Hd.d_level_of) rfl
  obtain ⟨fd_bounds_of, F_bounds_of⟩ := c.def_ 13 (d := Hd.d_bounds_of) rfl
  obtain ⟨fd_size_of, F_size_of⟩ := c.def_ 14 (d := Hd.d_size_of) rfl
  obtain ⟨fd_value_in, F_value_in⟩ := c.def_ 15 (d := Hd.d_value_in) rfl
  obtain ⟨fd_place_of, F_place_of⟩ := c.def_ 16 (d := Hd.d_place_of) rfl
  obtain ⟨fd_child_bounds, F_child_bounds⟩ := c.def_ 17 (d := Hd.d_child_bounds) rfl
  obtain ⟨fd_with_value, F_with_value⟩ := c.def_ 18 (d := Hd.d_with_value) rfl
  obtain ⟨fd_without_key, F_without_key⟩ := c.def_ 19 (d := Hd.d_without_key) rfl
  obtain ⟨fd_with_child, F_with_child⟩ := c.def_ 20 (d := Hd.d_with_child) rfl
  obtain ⟨fd_without_child, F_without_child⟩ := c.def_ 21 (d := Hd.d_without_child) rfl
  obtain ⟨fd_with_separator, F_with_separator⟩ := c.def_ 22 (d := Hd.d_with_separator) rfl
  obtain ⟨fd_cut, F_cut⟩ := c.def_ 23 (d := Hd.d_cut) rfl
  obtain ⟨fd_joined, F_joined⟩ := c.def_ 24 (d := Hd.d_joined) rfl
  obtain ⟨fd_leaf_change, F_leaf_change⟩ := c.def_ 25 (d := Hd.d_leaf_change) rfl
  obtain ⟨fd_most_of, F_most_of⟩ := c.def_ 26 (d := Hd.d_most_of) rfl
  obtain ⟨fd_Draft_init, F_Draft_init⟩ := c.def_ 27 (d := Hd.d_Draft_init) rfl
  obtain ⟨fd_Draft_give, F_Draft_give⟩ := c.def_ 28 (d := Hd.d_Draft_give) rfl
  obtain ⟨fd_Draft_add_page, F_Draft_add_page⟩ := c.def_ 29 (d := Hd.d_Draft_add_page) rfl
  obtain ⟨fd_Draft_entries, F_Draft_entries⟩ := c.def_ 30 (d := Hd.d_Draft_entries) rfl
  obtain ⟨fd_Draft_place_in_parent, F_Draft_place_in_parent⟩ := c.def_ 31 (d := Hd.d_Draft_place_in_parent) rfl
  obtain ⟨fd_Draft_settle, F_Draft_settle⟩ := c.def_ 32 (d := Hd.d_Draft_settle) rfl
  obtain ⟨fd_Draft_divide, F_Draft_divide⟩ := c.def_ 33 (d := Hd.d_Draft_divide) rfl
  obtain ⟨fd_Draft_unite, F_Draft_unite⟩ := c.def_ 34 (d := Hd.d_Draft_unite) rfl
  obtain ⟨fd_Draft_unite_pair, F_Draft_unite_pair⟩ := c.def_ 35 (d := Hd.d_Draft_unite_pair) rfl
  obtain ⟨fd_plan, F_plan⟩ := c.def_ 36 (d := Hd.d_plan) rfl
  obtain ⟨fd_new_pages, F_new_pages⟩ := c.def_ 37 (d := Hd.d_new_pages) rfl
  obtain ⟨fd_real_page, F_real_page⟩ := c.def_ 38 (d := Hd.d_real_page) rfl
  obtain ⟨fd_placed, F_placed⟩ := c.def_ 39 (d := Hd.d_placed) rfl
  obtain ⟨fd_law_cell, F_law_cell⟩ := c.def_ 40 (d := Hd.d_law_cell) rfl
  obtain ⟨fd_law_digits, F_law_digits⟩ := c.def_ 41 (d := Hd.d_law_digits) rfl
  obtain ⟨fd_law_many, F_law_many⟩ := c.def_ 42 (d := Hd.d_law_many) rfl
  obtain ⟨fd_law_call, F_law_call⟩ := c.def_ 43 (d := Hd.d_law_call) rfl
  obtain ⟨fd_law_due, F_law_due⟩ := c.def_ 44 (d := Hd.d_law_due) rfl
  obtain ⟨fd_law_walk, F_law_walk⟩ := c.def_ 46 (d := Hd.d_law_walk) rfl
  obtain ⟨fd_law_planned, F_law_planned⟩ := c.def_ 47 (d := Hd.d_law_planned) rfl
  obtain ⟨fd_law_free, F_law_free⟩ := c.def_ 48 (d := Hd.d_law_free) rfl
  obtain ⟨fd_law_applied, F_law_applied⟩ := c.def_ 49 (d := Hd.d_law_applied) rfl
  obtain ⟨fd_law_ascending, F_law_ascending⟩ := c.def_ 50 (d := Hd.d_law_ascending) rfl
  obtain ⟨fd_law_below, F_law_below⟩ := c.def_ 51 (d := Hd.d_law_below) rfl
  obtain ⟨fd_law_fits, F_law_fits⟩ := c.def_ 52 (d := Hd.d_law_fits) rfl
  obtain ⟨fd_law_map, F_law_map⟩ := c.def_ 53 (d := Hd.d_law_map) rfl
  obtain ⟨fd_law_start, F_law_start⟩ := c.def_ 54 (d := Hd.d_law_start) rfl
  obtain ⟨fd_law_filled, F_law_filled⟩ := c.def_ 55 (d := Hd.d_law_filled) rfl
  obtain ⟨fd_law_pages_of, F_law_pages_of⟩ := c.def_ 56 (d := Hd.d_law_pages_of) rfl
  obtain ⟨fd_law_both, F_law_both⟩ := c.def_ 57 (d := Hd.d_law_both) rfl
  obtain ⟨fd_law_alone, F_law_alone⟩ := c.def_ 58 (d := Hd.d_law_alone) rfl
  obtain ⟨fd_law, F_law⟩ := c.def_ 59 (d := Hd.d_law) rfl
  have T : ∀ base : Heap, Txt P w K mg base := fun base => ⟨He.free_ok X G (c.fact 51 (f := .free "len") rfl), He.free_ok X G (c.fact 52 (f := .free "isinstance") rfl), He.free_ok X G (c.fact 53 (f := .free "all") rfl), He.free_ok X G (c.fact 54 (f := .free "range") rfl), He.free_ok X G (c.fact 55 (f := .free "tuple") rfl), He.free_ok X G (c.fact 56 (f := .free "list") rfl), He.free_ok X G (c.fact 57 (f := .free "dict") rfl), He.free_ok X G (c.fact 58 (f := .free "sorted") rfl), He.free_ok X G (c.fact 59 (f := .free "max") rfl), He.free_ok X G (c.fact 60 (f := .free "min") rfl), He.free_ok X G (c.fact 61 (f := .free "int") rfl), He.free_ok X G (c.fact 62 (f := .free "bool") rfl), He.int_ok X G (c.fact 63 (f := .int "LEAF_MOST" 4) rfl), He.int_ok X G (c.fact 64 (f := .int "INNER_MOST" 5) rfl), He.int_ok X G (c.fact 65 (f := .int "LEAST" 2) rfl), ⟨He.cls_ok (c.fact 67 (f := .cls "Draft") rfl), He.noat_ok (c.fact 69 (f := .noat "Draft" "path") rfl), He.noat_ok (c.fact 70 (f := .noat "Draft" "siblings") rfl), He.noat_ok (c.fact 71 (f := .noat "Draft" "records") rfl), He.noat_ok (c.fact 72 (f := .noat "Draft" "addresses") rfl), He.noat_ok (c.fact 73 (f := .noat "Draft" "fresh") rfl)⟩, He.glo_ok X G (c.fact 66 (f := .glo "Draft") rfl)⟩
  have e := hfa.symm.trans (He.glo_ok X G (c.fact 50 (f := .glo "law") rfl))
  cases e
  have b := FunD.bindsA (ps := ["_law_script"]) F_law fun _ _ _ _ _ _ us hl => match us, hl with | [_], _ => rfl
  refine ⟨fd_law, fun s v => b s [v] rfl, fun base _ _ => ?_⟩
  have T := T base
  have m_init := He.mkr_ok (c.fact 68 (f := .mkr "Draft") rfl)
  have c_init := ok_init (P := P) (w := w) (mg := mg) (base := base) T F_Draft_init
  have b_init : Binds K fd_Draft_init ["self", "path", "siblings"] [] := F_Draft_init.bindsN fun _ _ _ _ _ _ us hl => match us, hl with | [_, _, _], _ => rfl
  have c_is_integer := ok_is_integer T F_is_integer (He.glo_ok X G (c.fact 0 (f := .glo "is_integer") rfl)) 
  have c_is_bound := ok_is_bound T F_is_bound (He.glo_ok X G (c.fact 1 (f := .glo "is_bound") rfl)) c_is_integer
  have c_are_integers := ok_are_integers T F_are_integers (He.glo_ok X G (c.fact 2 (f := .glo "are_integers") rfl)) c_is_integer
  have c_are_ascending := ok_are_ascending T F_are_ascending (He.glo_ok X G (c.fact 3 (f := .glo "are_ascending") rfl)) 
  have c_is_above := ok_is_above T F_is_above (He.glo_ok X G (c.fact 4 (f := .glo "is_above") rfl)) 
  have c_is_below := ok_is_below T F_is_below (He.glo_ok X G (c.fact 5 (f := .glo "is_below") rfl)) 
  have c_is_leaf := ok_is_leaf T F_is_leaf (He.glo_ok X G (c.fact 6 (f := .glo "is_leaf") rfl)) c_is_bound c_are_integers c_are_ascending c_is_below c_is_above
  have c_is_inner := ok_is_inner T F_is_inner (He.glo_ok X G (c.fact 7 (f := .glo "is_inner") rfl)) c_is_integer c_is_bound c_are_integers c_is_below c_are_ascending
  have c_is_record := ok_is_record T F_is_record (He.glo_ok X G (c.fact 8 (f := .glo "is_record") rfl)) c_is_leaf c_is_inner c_is_integer
  have c_checked := ok_checked T F_checked (He.glo_ok X G (c.fact 9 (f := .glo "checked") rfl)) c_is_record
  have c_leaf := ok_leaf T F_leaf (He.glo_ok X G (c.fact 10 (f := .glo "leaf") rfl)) c_checked
  have c_inner := ok_inner T F_inner (He.glo_ok X G (c.fact 11 (f := .glo "inner") rfl)) c_checked
  have c_level_of := ok_level_of T F_level_of (He.glo_ok X G (c.fact 12 (f := .glo "level_of") rfl)) 
  have c_bounds_of := ok_bounds_of T F_bounds_of (He.glo_ok X G (c.fact 13 (f := .glo "bounds_of") rfl)) 
  have c_size_of := ok_size_of T F_size_of (He.glo_ok X G (c.fact 14 (f := .glo "size_of") rfl)) 
  have c_value_in := ok_value_in T F_value_in (He.glo_ok X G (c.fact 15 (f := .glo "value_in") rfl)) 
  have c_place_of := ok_place_of T F_place_of (He.glo_ok X G (c.fact 16 (f := .glo "place_of") rfl)) 
  have c_child_bounds := ok_child_bounds T F_child_bounds (He.glo_ok X G (c.fact 17 (f := .glo "child_bounds") rfl)) 
  have c_with_value := ok_with_value T F_with_value (He.glo_ok X G (c.fact 18 (f := .glo "with_value") rfl)) c_place_of c_leaf
  have c_without_key := ok_without_key T F_without_key (He.glo_ok X G (c.fact 19 (f := .glo "without_key") rfl)) c_place_of c_leaf
  have c_with_child := ok_with_child T F_with_child (He.glo_ok X G (c.fact 20 (f := .glo "with_child") rfl)) c_inner
  have c_without_child := ok_without_child T F_without_child (He.glo_ok X G (c.fact 21 (f := .glo "without_child") rfl)) c_inner
  have c_with_separator := ok_with_separator T F_with_separator (He.glo_ok X G (c.fact 22 (f := .glo "with_separator") rfl)) c_inner
  have c_cut := ok_cut T F_cut (He.glo_ok X G (c.fact 23 (f := .glo "cut") rfl)) c_inner c_leaf c_size_of
  have c_joined := ok_joined T F_joined (He.glo_ok X G (c.fact 24 (f := .glo "joined") rfl)) c_inner c_bounds_of c_leaf
  have c_leaf_change := ok_leaf_change T F_leaf_change (He.glo_ok X G (c.fact 25 (f := .glo "leaf_change") rfl)) c_value_in c_with_value c_without_key
  have c_most_of := ok_most_of T F_most_of (He.glo_ok X G (c.fact 26 (f := .glo "most_of") rfl)) c_level_of
  have c_Draft_give := ok_Draft_give T F_Draft_give (He.meth_ok (c.fact 74 (f := .meth "Draft" "give") rfl)) 
  have c_Draft_add_page := ok_Draft_add_page T F_Draft_add_page (He.meth_ok (c.fact 75 (f := .meth "Draft" "add_page") rfl)) 
  have c_Draft_entries := ok_Draft_entries T F_Draft_entries (He.meth_ok (c.fact 76 (f := .meth "Draft" "entries") rfl)) 
  have c_Draft_place_in_parent := ok_Draft_place_in_parent T F_Draft_place_in_parent (He.meth_ok (c.fact 77 (f := .meth "Draft" "place_in_parent") rfl)) c_size_of c_child_bounds c_bounds_of
  have c_Draft_divide := ok_Draft_divide T F_Draft_divide (He.meth_ok (c.fact 79 (f := .meth "Draft" "divide") rfl)) c_cut c_Draft_place_in_parent c_Draft_give c_Draft_add_page c_with_child c_level_of c_inner
  have c_Draft_unite_pair := ok_Draft_unite_pair T F_Draft_unite_pair (He.meth_ok (c.fact 81 (f := .meth "Draft" "unite_pair") rfl)) c_joined c_without_child c_Draft_give c_size_of c_most_of c_cut c_bounds_of c_with_separator
  have c_Draft_unite := ok_Draft_unite T F_Draft_unite (He.meth_ok (c.fact 80 (f := .meth "Draft" "unite") rfl)) c_Draft_place_in_parent c_Draft_unite_pair c_level_of c_bounds_of c_child_bounds
  have c_Draft_settle := ok_Draft_settle T F_Draft_settle (He.meth_ok (c.fact 78 (f := .meth "Draft" "settle") rfl)) c_Draft_give c_size_of c_most_of c_Draft_divide c_Draft_unite
  have c_plan := ok_plan T F_plan (He.glo_ok X G (c.fact 27 (f := .glo "plan") rfl)) c_leaf_change c_init m_init b_init c_Draft_settle c_Draft_entries
  have c_new_pages := ok_new_pages T F_new_pages (He.glo_ok X G (c.fact 28 (f := .glo "new_pages") rfl)) 
  have c_real_page := ok_real_page T F_real_page (He.glo_ok X G (c.fact 29 (f := .glo "real_page") rfl)) 
  have c_placed := ok_placed T F_placed (He.glo_ok X G (c.fact 30 (f := .glo "placed") rfl)) c_real_page
  have c_law_cell := ok_law_cell T F_law_cell (He.glo_ok X G (c.fact 31 (f := .glo "_law_cell") rfl)) 
  have c_law_digits := ok_law_digits T F_law_digits (He.glo_ok X G (c.fact 32 (f := .glo "_law_digits") rfl)) 
  have c_law_many := ok_law_many T F_law_many (He.glo_ok X G (c.fact 33 (f := .glo "_law_many") rfl)) 
  have c_law_call := ok_law_call T F_law_call (He.glo_ok X G (c.fact 34 (f := .glo "_law_call") rfl)) c_law_digits
  have c_law_due := ok_law_due T F_law_due (He.glo_ok X G (c.fact 35 (f := .glo "_law_due") rfl)) 
  have c_law_walk := ok_law_walk T F_law_walk (He.glo_ok X G (c.fact 37 (f := .glo "_law_walk") rfl)) 
  have c_law_planned := ok_law_planned T F_law_planned (He.glo_ok X G (c.fact 38 (f := .glo "_law_planned") rfl)) c_law_walk c_plan
  have c_law_free := ok_law_free T F_law_free (He.glo_ok X G (c.fact 39 (f := .glo "_law_free") rfl)) 
  have c_law_applied := ok_law_applied T F_law_applied (He.glo_ok X G (c.fact 40 (f := .glo "_law_applied") rfl)) c_placed c_law_free c_new_pages
  have c_law_ascending := ok_law_ascending T F_law_ascending (He.glo_ok X G (c.fact 41 (f := .glo "_law_ascending") rfl)) 
  have c_law_below := ok_law_below T F_law_below (He.glo_ok X G (c.fact 42 (f := .glo "_law_below") rfl)) 
  have c_law_fits := ok_law_fits T F_law_fits (He.glo_ok X G (c.fact 43 (f := .glo "_law_fits") rfl)) c_law_ascending
  have c_law_map := ok_law_map T F_law_map (He.glo_ok X G (c.fact 44 (f := .glo "_law_map") rfl)) c_law_fits c_law_below
  have c_law_start := ok_law_start T F_law_start (He.glo_ok X G (c.fact 45 (f := .glo "_law_start") rfl)) 
  have c_law_filled := ok_law_filled T F_law_filled (He.glo_ok X G (c.fact 46 (f := .glo "_law_filled") rfl)) c_law_digits c_law_start c_law_planned c_law_applied
  have c_law_pages_of := ok_law_pages_of T F_law_pages_of (He.glo_ok X G (c.fact 47 (f := .glo "_law_pages_of") rfl)) 
  have c_law_both := ok_law_both T F_law_both (He.glo_ok X G (c.fact 48 (f := .glo "_law_both") rfl)) c_law_applied c_law_map
  have c_law_alone := ok_law_alone T F_law_alone (He.glo_ok X G (c.fact 49 (f := .glo "_law_alone") rfl)) c_law_applied c_law_map
  exact (ok_law T F_law c_law_filled c_law_cell c_law_call c_law_planned c_law_many c_law_applied c_law_due c_law_pages_of c_law_both c_law_alone).imp (law_sp pl)
end K32
end
section
set_option Elab.async false
set_option linter.all false
set_option maxRecDepth 100000
set_option maxHeartbeats 0
open PySem PySem.W PySem.Calls PyProof.Rows
theorem K32.final (pl : ∀ ns : List Int, ns.length ≤ 63 → K32.fn_law [.scr ns] = some (.bl true)) : PySem.Challenge.rw_espalier_k32_whole_plans_that_commute.Holds := by
  w_on; o_law
  refine HandSHeadRun.head_any (r := OpenLaw.row PySem.Challenge.rw_espalier_k32_whole_plans_that_commute) (q := view (OpenLaw.row PySem.Challenge.rw_espalier_k32_whole_plans_that_commute).prog [60]) (H := K32.Hd.hk) (ob := K32.Hd.ob) (M := 4000) (loose := K32.Hd.loose) (d := HandSHeadRun.topDef (OpenLaw.row PySem.Challenge.rw_espalier_k32_whole_plans_that_commute).prog 60) (kwd := []) K32.Hd.ob_eq
    (by kernel_rfl) (fun s => by kernel_rfl) K32.Hd.run (by kernel_rfl) (by kernel_rfl) (by kernel_rfl) (by rfl) (by first | assumption | decide +kernel) (by decide +kernel) ⟨rfl, rfl, rfl, rfl, rfl, by decide +kernel⟩ ?hw ?hc
  case hw => w_witness2
  case hc =>
    refine L2.walk_ofE (l := PySem.Challenge.rw_espalier_k32_whole_plans_that_commute) (n := 63) (k := 14) (x := "_law_script") (CX := L2.CX0) rfl (by decide) (by kernel_rfl) ⟨rfl, by decide, by decide⟩ ?F (fun _ _ _ _ z => z)
    intro w mg fa h Y G hmg0
    obtain ⟨K, KX, c⟩ := Y
    have hmg : mg ("law" : PySem.Str) = some (.ref fa) := by
      have e : (HandSHeadRun.topDef (OpenLaw.row PySem.Challenge.rw_espalier_k32_whole_plans_that_commute).prog 60).name = ("law" : PySem.Str) := by kernel_rfl
      rw [← e]
      exact hmg0
    obtain ⟨fd, hb, hF⟩ := K32.facts pl (P := (PySem.Challenge.rw_espalier_k32_whole_plans_that_commute).prog) (w := w) KX G hmg c
    exact ⟨K, fd, K32.spLaw K, KX, hb, fun H a ns hl _ hS => ⟨a, ns, rfl, hS, hl, fun _ => rfl⟩, hF⟩
end
section
set_option Elab.async false
set_option linter.all false
set_option maxRecDepth 100000
set_option maxHeartbeats 4000000
/-! the data functions evaluated by value: equations for simp -/
namespace K32
open PySem PySem.Spec PyProof.Rows L2
def b1 (dop : D → Option D) : Option D → Option D
  | some x => dop x
  | none => none
def b2 (dop : D → D → Option D) : Option D → Option D → Option D
  | some x, some y => dop x y
  | _, _ => none
def bL (fn : List D → Option D) : Option (List D) → Option D
  | some x => fn x
  | none => none
def cL : Option D → Option (List D) → Option (List D)
  | some x, some xs => some (x :: xs)
  | _, _ => none
def mD (c : List D → D) : Option (List D) → Option D
  | some xs => some (c xs)
  | none => none
def bT : Option D → Option Bool
  | some x => dB x
  | none => none
def andO : Option Bool → (En → Option Bool) → En → Option Bool
  | some true, g, ρ => g ρ
  | some false, _, _ => some false
  | none, _, _ => none
def orO : Option Bool → (En → Option Bool) → En → Option Bool
  | some false, g, ρ => g ρ
  | some true, _, _ => some true
  | none, _, _ => none
def notO : Option Bool → Option Bool
  | some b => some (!b)
  | none => none
def blO : Option Bool → Option D
  | some b => some (.bl b)
  | none => none
def andD : Option Bool → FD → En → Option D
  | some true, g, ρ => blO (bT (g ρ))
  | some false, _, _ => some (.bl false)
  | none, _, _ => none
def orD : Option Bool → FD → En → Option D
  | some false, g, ρ => blO (bT (g ρ))
  | some true, _, _ => some (.bl true)
  | none, _, _ => none
def ifO : Option Bool → FS → FS → En → Option Out
  | some true, g, _, ρ => g ρ
  | some false, _, g, ρ => g ρ
  | none, _, _, _ => none
def seqO : Option Out → FS → Option Out
  | some (.nx ρ), g => g ρ
  | some (.rt d ρ), _ => some (.rt d ρ)
  | some (.bk ρ), _ => some (.bk ρ)
  | none, _ => none
def setO (i : Nat) : Option (D × En) → Option Out
  | some (d, ρ) => some (.nx (ρ.set i (some (.fz d))))
  | none => none
def pM : Option D → En → Option (D × En)
  | some d, ρ => some (d, ρ)
  | none, _ => none
def retO : Option (D × En) → Option Out
  | some (d, ρ) => some (.rt d ρ)
  | none => none
def dropO : Option (D × En) → Option Out
  | some (_, ρ) => some (.nx ρ)
  | none => none
def unO (is : List Nat) : Option (D × En) → Option Out
  | some (.tup ds, ρ) => if ds.length = is.length then some (.nx (setNs is ds ρ)) else none
  | _ => none
def slO : Option D → Option (Option Int) → Option (Option Int) → Option D
  | some d, some lo, some hi => dSl lo hi d
  | _, _, _ => none
def someO : Option D → Option (Option Int)
  | some (.int i) => some (some i)
  | _ => none
def chO (dop' : D → D → Option D) : Option D → D → FD → En → Option D
  | some (.bl true), y, fw, ρ => b2 dop' (some y) (fw ρ)
  | some (.bl false), _, _, _ => some (.bl false)
  | _, _, _, _ => none
def chP (dop dop' : D → D → Option D) : Option D → Option D → FD → En → Option D
  | some x, some y, fw, ρ => chO dop' (dop x y) y fw ρ
  | _, _, _, _ => none
def endO : Option Out → Option D
  | some o => outD o
  | none => none
section
variable {dop dop' : D → D → Option D} {d1 : D → Option D} {fa fb fw f g : FD} {ρ : En} {fn : List D → Option D} {l : List FD} {t t' : En → Option Bool} {s s' : FS} {m : FM} {i n : Nat} {is : List Nat} {a b c d e : D} {x : Option Sl} {fl fh : FO} {z : Sl}
theorem ev_f2 : f2 dop fa fb ρ = b2 dop (fa ρ) (fb ρ) := by unfold f2; cases fa ρ <;> cases fb ρ <;> rfl
theorem ev_f1 : f1 d1 fa ρ = b1 d1 (fa ρ) := by unfold f1; cases fa ρ <;> rfl
theorem ev_fC : fC a ρ = some a := rfl
theorem ev_v0 : fVar 0 (some (.fz d) :: ρ) = some d := rfl
theorem ev_vs : fVar (n + 1) (x :: ρ) = fVar n ρ := rfl
theorem ev_c0 : fVarC 0 (some (.fz d) :: ρ) = some d := rfl
theorem ev_c1 {ds : List D} : fVarC 0 (some (.ol ds) :: ρ) = some (.lst ds) := rfl
theorem ev_c2 {es : List (Int × D)} : fVarC 0 (some (.od es) :: ρ) = some (.dic es) := rfl
theorem ev_cs : fVarC (n + 1) (x :: ρ) = fVarC n ρ := rfl
theorem ev_call : fCall fn l ρ = bL fn (fAll l ρ) := by unfold fCall; cases fAll l ρ <;> rfl
theorem ev_all0 : fAll [] ρ = some [] := rfl
theorem ev_all1 : fAll (f :: l) ρ = cL (f ρ) (fAll l ρ) := by
  show (f ρ).bind _ = _
  cases f ρ <;> cases fAll l ρ <;> rfl
theorem ev_tup : fTup l ρ = mD D.tup (fAll l ρ) := by unfold fTup; cases fAll l ρ <;> rfl
theorem ev_lst : fLst l ρ = mD D.lst (fAll l ρ) := by unfold fLst; cases fAll l ρ <;> rfl
theorem ev_T : fT f ρ = bT (f ρ) := by unfold fT; cases f ρ <;> rfl
theorem ev_andT : fAndT t t' ρ = andO (t ρ) t' ρ := by unfold fAndT; cases t ρ with | none => rfl | some k => cases k <;> rfl
theorem ev_orT : fOrT t t' ρ = orO (t ρ) t' ρ := by unfold fOrT; cases t ρ with | none => rfl | some k => cases k <;> rfl
theorem ev_notT : fNotT t ρ = notO (t ρ) := by unfold fNotT; cases t ρ <;> rfl
theorem ev_and : fAnd f g ρ = andD (bT (f ρ)) g ρ := by
  unfold fAnd
  rw [ev_T]
  cases bT (f ρ) with
  | none => rfl
  | some k => cases k with
    | false => rfl
    | true =>
      show (fT g ρ).map D.bl = blO (bT (g ρ))
      rw [ev_T]
      cases bT (g ρ) <;> rfl
theorem ev_or : fOr f g ρ = orD (bT (f ρ)) g ρ := by
  unfold fOr
  rw [ev_T]
  cases bT (f ρ) with
  | none => rfl
  | some k => cases k with
    | true => rfl
    | false =>
      show (fT g ρ).map D.bl = blO (bT (g ρ))
      rw [ev_T]
      cases bT (g ρ) <;> rfl
theorem ev_not : fNot f ρ = blO (notO (bT (f ρ))) := by
  unfold fNot
  rw [ev_T]
  cases bT (f ρ) <;> rfl
theorem ev_if : gIf t s s' ρ = ifO (t ρ) s s' ρ := by unfold gIf; cases t ρ with | none => rfl | some k => cases k <;> rfl
theorem ev_seq : gSeq s s' ρ = seqO (s ρ) s' := by unfold gSeq; cases s ρ with | none => rfl | some o => cases o <;> rfl
theorem ev_nx : gNx ρ = some (.nx ρ) := rfl
theorem ev_bk : gBk ρ = some (.bk ρ) := rfl
theorem ev_no : gNo ρ = none := rfl
theorem ev_set : gSet i m ρ = setO i (m ρ) := by unfold gSet; cases m ρ <;> rfl
theorem ev_M : fM f ρ = pM (f ρ) ρ := by unfold fM; cases f ρ <;> rfl
theorem ev_ret : gRet m ρ = retO (m (frzE ρ)) := by unfold gRet; cases m (frzE ρ) <;> rfl
theorem ev_drop : gDrop m ρ = dropO (m ρ) := by unfold gDrop; cases m ρ <;> rfl
theorem ev_un : gUn is m ρ = unO is (m ρ) := by
  unfold gUn
  cases m ρ with
  | none => rfl
  | some q =>
    obtain ⟨d, ρ'⟩ := q
    cases d with
    | tup ds =>
      show ((tupD (.tup ds)).bind fun ds => if ds.length = is.length then some (setNs is ds ρ') else none).map Out.nx = if ds.length = is.length then some (.nx (setNs is ds ρ')) else none
      show (if ds.length = is.length then some (setNs is ds ρ') else none).map Out.nx = _
      split <;> rfl
    | _ => rfl
theorem ev_ns1 {is : List Nat} {ds : List D} : setNs (i :: is) (d :: ds) ρ = setNs is ds (ρ.set i (some (.fz d))) := rfl
theorem ev_ns0 : setNs [] [] ρ = ρ := rfl
theorem ev_sl : fSl f fl fh ρ = slO (f ρ) (fl ρ) (fh ρ) := by unfold fSl; cases f ρ <;> cases fl ρ <;> cases fh ρ <;> rfl
theorem ev_o0 : oNone ρ = some none := rfl
theorem ev_o1 : oSome f ρ = someO (f ρ) := by
  unfold oSome
  cases f ρ with
  | none => rfl
  | some d => cases d <;> rfl
theorem ev_neg : fNeg f ρ = b1 (fun d => (dI d).map fun i => .int (-i)) (f ρ) := ev_f1
theorem ev_ch : fCh dop dop' fa fb fw ρ = chP dop dop' (fa ρ) (fb ρ) fw ρ := by
  unfold fCh
  cases fa ρ with
  | none => rfl
  | some x => cases fb ρ with
    | none => rfl
    | some y =>
      show ((dop x y).bind dB).bind _ = chO dop' (dop x y) y fw ρ
      cases dop x y with
      | none => rfl
      | some d => cases d with
        | bl k => cases k with
          | true =>
            show (fw ρ).bind _ = b2 dop' (some y) (fw ρ)
            cases fw ρ <;> rfl
          | false => rfl
        | _ => rfl
theorem ev_fz0 : frzE [] = [] := rfl
theorem ev_fz1 : frzE (none :: ρ) = none :: frzE ρ := rfl
theorem ev_fz2 : frzE (some (.fz d) :: ρ) = some (.fz d) :: frzE ρ := rfl
theorem ev_fz3 {ds : List D} : frzE (some (.ol ds) :: ρ) = some (.fz (.lst ds)) :: frzE ρ := rfl
theorem ev_fz4 {es : List (Int × D)} : frzE (some (.od es) :: ρ) = some (.fz (.dic es)) :: frzE ρ := rfl
theorem ev_fz5 {st : Dr} : frzE (some (.ob st) :: ρ) = some (.ob st) :: frzE ρ := rfl
theorem ev_st0 {v w : Option Sl} : (w :: ρ : En).set 0 v = v :: ρ := rfl
theorem ev_sts {v w : Option Sl} : (w :: ρ : En).set (n + 1) v = w :: ρ.set n v := rfl
def nones : Nat → En
  | 0 => []
  | n + 1 => none :: nones n
theorem repl_nones : ∀ n, (List.replicate n none : En) = nones n
  | 0 => rfl
  | n + 1 => by rw [List.replicate_succ, repl_nones n]; rfl
theorem fn_1 : fnOf (n + 1) 1 s [a] = endO (s (some (.fz a) :: nones n)) := by
  show (s (some (.fz a) :: List.replicate n none)).bind outD = _
  rw [repl_nones]
  cases s _ <;> rfl
theorem fn_2 : fnOf (n + 2) 2 s [a, b] = endO (s (some (.fz a) :: some (.fz b) :: nones n)) := by
  show (s (some (.fz a) :: some (.fz b) :: List.replicate n none)).bind outD = _
  rw [repl_nones]
  cases s _ <;> rfl
theorem fn_3 : fnOf (n + 3) 3 s [a, b, c] = endO (s (some (.fz a) :: some (.fz b) :: some (.fz c) :: nones n)) := by
  show (s (some (.fz a) :: some (.fz b) :: some (.fz c) :: List.replicate n none)).bind outD = _
  rw [repl_nones]
  cases s _ <;> rfl
theorem fn_4 : fnOf (n + 4) 4 s [a, b, c, d] = endO (s (some (.fz a) :: some (.fz b) :: some (.fz c) :: some (.fz d) :: nones n)) := by
  show (s (some (.fz a) :: some (.fz b) :: some (.fz c) :: some (.fz d) :: List.replicate n none)).bind outD = _
  rw [repl_nones]
  cases s _ <;> rfl
theorem fn_5 : fnOf (n + 5) 5 s [a, b, c, d, e] = endO (s (some (.fz a) :: some (.fz b) :: some (.fz c) :: some (.fz d) :: some (.fz e) :: nones n)) := by
  show (s (some (.fz a) :: some (.fz b) :: some (.fz c) :: some (.fz d) :: some (.fz e) :: List.replicate n none)).bind outD = _
  rw [repl_nones]
  cases s _ <;> rfl
theorem fn_0 : fnOf n 0 s [] = endO (s (nones n)) := by
  show (s (List.replicate n none)).bind outD = _
  rw [repl_nones]
  cases s _ <;> rfl
end
/-! the joints, by constructors -/
section
variable {dop dop' : D → D → Option D} {d1 : D → Option D} {fa fb fw f g : FD} {ρ : En} {fn : List D → Option D} {l : List FD} {t t' : En → Option Bool} {s s' : FS} {m : FM} {i n : Nat} {is : List Nat} {a b c d e x y : D} {fl fh : FO} {xs ds : List D} {k : Bool} {u v : Int} {p q : Str}
theorem j_b1 : b1 d1 (some x) = d1 x := rfl
theorem j_b2 : b2 dop (some x) (some y) = dop x y := rfl
theorem j_bL : bL fn (some xs) = fn xs := rfl
theorem j_cL : cL (some x) (some xs) = some (x :: xs) := rfl
theorem j_mD {c : List D → D} : mD c (some xs) = some (c xs) := rfl
theorem j_bT : bT (some (.bl k)) = some k := rfl
theorem j_andT : andO (some true) t ρ = t ρ := rfl
theorem j_andF : andO (some false) t ρ = some false := rfl
theorem j_orF : orO (some false) t ρ = t ρ := rfl
theorem j_orT : orO (some true) t ρ = some true := rfl
theorem j_not : notO (some k) = some (!k) := rfl
theorem j_bl : blO (some k) = some (.bl k) := rfl
theorem j_aDT : andD (some true) g ρ = blO (bT (g ρ)) := rfl
theorem j_aDF : andD (some false) g ρ = some (.bl false) := rfl
theorem j_oDF : orD (some false) g ρ = blO (bT (g ρ)) := rfl
theorem j_oDT : orD (some true) g ρ = some (.bl true) := rfl
theorem j_ifT : ifO (some true) s s' ρ = s ρ := rfl
theorem j_ifF : ifO (some false) s s' ρ = s' ρ := rfl
theorem j_seqN : seqO (some (.nx ρ)) s = s ρ := rfl
theorem j_seqR : seqO (some (.rt d ρ)) s = some (.rt d ρ) := rfl
theorem j_seqB : seqO (some (.bk ρ)) s = some (.bk ρ) := rfl
theorem j_set : setO i (some (d, ρ)) = some (.nx (ρ.set i (some (.fz d)))) := rfl
theorem j_pM : pM (some d) ρ = some (d, ρ) := rfl
theorem j_ret : retO (some (d, ρ)) = some (.rt d ρ) := rfl
theorem j_drop : dropO (some (d, ρ)) = some (.nx ρ) := rfl
theorem j_un : unO is (some (.tup ds, ρ)) = if ds.length = is.length then some (.nx (setNs is ds ρ)) else none := rfl
theorem j_sl {lo hi : Option Int} : slO (some d) (some lo) (some hi) = dSl lo hi d := rfl
theorem j_some : someO (some (.int u)) = some (some u) := rfl
theorem j_chT : chO dop' (some (.bl true)) y fw ρ = b2 dop' (some y) (fw ρ) := rfl
theorem j_chF : chO dop' (some (.bl false)) y fw ρ = some (.bl false) := rfl
theorem j_chP : chP dop dop' (some x) (some y) fw ρ = chO dop' (dop x y) y fw ρ := rfl
theorem j_endR : endO (some (.rt d ρ)) = some d := rfl
theorem j_endN : endO (some (.nx ρ)) = some .non := rfl
theorem j_nones0 : nones 0 = [] := rfl
theorem j_nonesS : nones (n + 1) = none :: nones n := rfl
theorem d_lt : dLt (.int u) (.int v) = some (.bl (decide (u < v))) := rfl
theorem d_le : dLe (.int u) (.int v) = some (.bl (decide (u ≤ v))) := rfl
theorem d_gt : dGt (.int u) (.int v) = some (.bl (decide (v < u))) := rfl
theorem d_ge : dGe (.int u) (.int v) = some (.bl (decide (v ≤ u))) := rfl
theorem d_addI : dAdd (.int u) (.int v) = some (.int (u + v)) := rfl
theorem d_sub : dSub (.int u) (.int v) = some (.int (u - v)) := rfl
theorem d_lenT : dLen (.tup ds) = some (.int ds.length) := rfl
theorem d_lenL : dLen (.lst ds) = some (.int ds.length) := rfl
theorem d_eqI : dEq (.int u) (.int v) = some (.bl (decide (u = v))) := rfl
theorem d_eqS : dEq (.str p) (.str q) = some (.bl (decide (p = q))) := rfl
theorem d_eqNI : dEq .non (.int v) = some (.bl false) := rfl
theorem d_eqIN : dEq (.int v) .non = some (.bl false) := rfl
theorem d_eqNN : dEq .non .non = some (.bl true) := rfl
theorem d_neI : dNe (.int u) (.int v) = some (.bl (!decide (u = v))) := rfl
theorem d_neS : dNe (.str p) (.str q) = some (.bl (!decide (p = q))) := rfl
theorem d_neNI : dNe .non (.int v) = some (.bl true) := rfl
theorem d_neIN : dNe (.int v) .non = some (.bl true) := rfl
theorem d_neNN : dNe .non .non = some (.bl false) := rfl
theorem d_isNN : dIsN .non .non = some (.bl true) := rfl
theorem d_isNI : dIsN (.int u) .non = some (.bl false) := rfl
theorem d_isNB : dIsN (.bl k) .non = some (.bl false) := rfl
theorem d_isNT : dIsN (.tup ds) .non = some (.bl false) := rfl
theorem d_isND {es : List (Int × D)} : dIsN (.dic es) .non = some (.bl false) := rfl
theorem d_notNN : dNotN .non .non = some (.bl false) := rfl
theorem d_notNI : dNotN (.int u) .non = some (.bl true) := rfl
theorem d_notNT : dNotN (.tup ds) .non = some (.bl true) := rfl
theorem d_notND {es : List (Int × D)} : dNotN (.dic es) .non = some (.bl true) := rfl
theorem d_slT {lo hi : Option Int} : dSl lo hi (.tup ds) = some (.tup (cutD ds lo hi)) := rfl
theorem d_neg : (dI (.int u)).map (fun i => D.int (-i)) = some (.int (-u)) := rfl
theorem d_divP (h : 0 < v ∧ v < 1073741824) : dDiv (.int u) (.int v) = some (.int (u / v)) := if_pos h
theorem d_modP (h : 0 < v) : dMod (.int u) (.int v) = some (.int (u % v)) := if_pos h
theorem d_mulP (h : mulOk u v = true) : dMul (.int u) (.int v) = some (.int (u * v)) := if_pos h
theorem d_catP {ds es : List D} (h : ds.length + es.length ≤ 100000) : dAdd (.tup ds) (.tup es) = some (.tup (ds ++ es)) := if_pos h
theorem d_catL {ds es : List D} (h : ds.length + es.length ≤ 100000) : dAdd (.lst ds) (.lst es) = some (.lst (ds ++ es)) := if_pos h
theorem d_tupT : dTuple (.tup ds) = some (.tup ds) := rfl
theorem d_tupL : dTuple (.lst ds) = some (.tup ds) := rfl
theorem d_listL : dList (.lst ds) = some (.lst ds) := rfl
theorem d_dict {es : List (Int × D)} : dDict (.dic es) = some (.dic es) := rfl
theorem d_intI : dInt (.int u) = some (.int u) := rfl
theorem d_intB : dInt (.bl k) = some (.int (if k then 1 else 0)) := rfl
end
/-! items of tuples by their place -/
theorem ix0 {a : D} {l : List D} : dIx (.tup (a :: l)) (.int 0) = some a := by
  show atI (a :: l) ((0 : Nat) : Int) = some a
  exact atI_nat rfl
theorem ix1 {a b : D} {l : List D} : dIx (.tup (a :: b :: l)) (.int 1) = some b := by
  show atI (a :: b :: l) ((1 : Nat) : Int) = some b
  exact atI_nat rfl
theorem ix2 {a b c : D} {l : List D} : dIx (.tup (a :: b :: c :: l)) (.int 2) = some c := by
  show atI (a :: b :: c :: l) ((2 : Nat) : Int) = _
  exact atI_nat rfl
theorem ix3 {a b c d : D} {l : List D} : dIx (.tup (a :: b :: c :: d :: l)) (.int 3) = some d := by
  show atI (a :: b :: c :: d :: l) ((3 : Nat) : Int) = _
  exact atI_nat rfl
theorem ix4 {a b c d e : D} {l : List D} : dIx (.tup (a :: b :: c :: d :: e :: l)) (.int 4) = some e := by
  show atI (a :: b :: c :: d :: e :: l) ((4 : Nat) : Int) = _
  exact atI_nat rfl
theorem ix5 {a b c d e f : D} {l : List D} : dIx (.tup (a :: b :: c :: d :: e :: f :: l)) (.int 5) = some f := by
  show atI (a :: b :: c :: d :: e :: f :: l) ((5 : Nat) : Int) = _
  exact atI_nat rfl
theorem atI_neg {α : Type} {l : List α} {k : Nat} {x : α} (h : l[l.length - k]? = some x) (h1 : 0 < k) (h2 : k ≤ l.length) : atI l (-(k : Int)) = some x := by
  unfold atI ixN
  rw [if_neg (by omega), if_pos (by omega)]
  show l[(-(k : Int) + (l.length : Int)).toNat]? = some x
  rw [show (-(k : Int) + (l.length : Int)).toNat = l.length - k by omega]
  exact h
theorem ixm1 {a : D} {l : List D} : dIx (.tup (a :: l)) (.int (-1)) = some ((a :: l).getLast (by simp)) := by
  refine atI_neg (k := 1) ?_ (by omega) (by simp)
  rw [List.getLast_eq_getElem, List.getElem?_eq_getElem (by simp)]
end K32
end
section
set_option Elab.async false
set_option linter.all false
set_option maxRecDepth 100000
set_option maxHeartbeats 4000000
namespace K32
open PySem PySem.Spec PyProof.Rows L2








inductive Rc where
  | leaf (lo hi : Option Int) (ks vs : List Int) | inner (lv : Int) (lo hi : Option Int) (ks ps : List Int) | free (n : Int)
  deriving DecidableEq
def bd : Option Int → D
  | none => .non
  | some i => .int i
def tI (l : List Int) : D := .tup (l.map D.int)
def enc : Rc → D
  | .leaf lo hi ks vs => .tup [.str "leaf", bd lo, bd hi, tI ks, tI vs]
  | .inner lv lo hi ks ps => .tup [.str "inner", .int lv, bd lo, bd hi, tI ks, tI ps]
  | .free n => .tup [.str "free", .int n]
def cbLo (lo : Option Int) (ks : List Int) (i : Nat) : Option Int := if 0 < i then ks[i - 1]? else lo
def cbHi (hi : Option Int) (ks : List Int) (i : Nat) : Option Int := if i < ks.length then ks[i]? else hi
def geLo (lo : Option Int) (k : Int) : Prop := ∀ l, lo = some l → l ≤ k
def ltHi (hi : Option Int) (k : Int) : Prop := ∀ h, hi = some h → k < h
def gtLo (lo : Option Int) (k : Int) : Prop := ∀ l, lo = some l → l < k
structure OkL (lo hi : Option Int) (ks vs : List Int) : Prop where
  len : ks.length = vs.length
  lh : ∀ l h, lo = some l → hi = some h → l < h
  asc : ks.Pairwise (· < ·)
  cov : ∀ k ∈ ks, geLo lo k ∧ ltHi hi k
  few : ks.length ≤ 1000
structure OkI (lv : Int) (lo hi : Option Int) (ks ps : List Int) : Prop where
  lv : 1 ≤ lv
  len : ps.length = ks.length + 1
  lh : ∀ l h, lo = some l → hi = some h → l < h
  asc : ks.Pairwise (· < ·)
  ins : ∀ k ∈ ks, gtLo lo k ∧ ltHi hi k
  few : ks.length ≤ 1000
theorem bd_none : bd none = .non := rfl
theorem bd_some {l : Int} : bd (some l) = .int l := rfl
theorem enc_leaf {lo hi ks vs} : enc (.leaf lo hi ks vs) = .tup [.str "leaf", bd lo, bd hi, tI ks, tI vs] := rfl
theorem enc_inner {lv lo hi ks ps} : enc (.inner lv lo hi ks ps) = .tup [.str "inner", .int lv, bd lo, bd hi, tI ks, tI ps] := rfl
theorem enc_free {n} : enc (.free n) = .tup [.str "free", .int n] := rfl
theorem tI_ix {ks : List Int} {i : Nat} {k : Int} (h : ks[i]? = some k) : dIx (tI ks) (.int (i : Int)) = some (.int k) := by
  show atI (ks.map D.int) (i : Int) = _
  exact atI_nat (by rw [List.getElem?_map, h]; rfl)
theorem tI_len {ks : List Int} : dLen (tI ks) = some (.int ks.length) := by
  show some (D.int ((ks.map D.int).length : Int)) = _
  rw [List.length_map]
theorem cutD_take {ds : List D} {k : Nat} : cutD ds none (some (k : Int)) = ds.take k := by
  unfold cutD
  rw [HT.sIx_none, HT.sIx_nat]
  simp [List.take_eq_take_iff]
theorem cutD_drop {ds : List D} {k : Nat} : cutD ds (some (k : Int)) none = ds.drop k := by
  unfold cutD
  rw [HT.sIx_none, HT.sIx_nat]
  by_cases h : k ≤ ds.length
  · rw [Nat.min_eq_left h, List.take_of_length_le (by simp)]
  · rw [Nat.min_eq_right (by omega), List.drop_of_length_le (Nat.le_refl _), List.drop_of_length_le (by omega)]
    simp
theorem sl_take {ks : List Int} {k : Nat} : dSl none (some (k : Int)) (tI ks) = some (tI (ks.take k)) := by
  show some (D.tup (cutD (ks.map D.int) none (some (k : Int)))) = _
  rw [cutD_take, ← List.map_take]
  rfl
theorem sl_drop {ks : List Int} {k : Nat} : dSl (some (k : Int)) none (tI ks) = some (tI (ks.drop k)) := by
  show some (D.tup (cutD (ks.map D.int) (some (k : Int)) none)) = _
  rw [cutD_drop, ← List.map_drop]
  rfl
theorem cut51 {a b c d e : D} : cutD [a, b, c, d, e] (some 1) none = [b, c, d, e] := rfl
theorem cut61 {a b c d e f : D} : cutD [a, b, c, d, e, f] (some 1) none = [b, c, d, e, f] := rfl
theorem cut62 {a b c d e f : D} : cutD [a, b, c, d, e, f] (some 2) none = [c, d, e, f] := rfl
theorem cut605 {a b c d e f : D} : cutD [a, b, c, d, e, f] none (some 5) = [a, b, c, d, e] := rfl
theorem cut513 {a b c d e : D} : cutD [a, b, c, d, e] (some 1) (some 3) = [b, c] := rfl
theorem cut624 {a b c d e f : D} : cutD [a, b, c, d, e, f] (some 2) (some 4) = [c, d] := rfl
theorem ixm5 {a b c d e : D} : dIx (.tup [a, b, c, d, e]) (.int (-1)) = some e := rfl
theorem ixm6 {a b c d e f : D} : dIx (.tup [a, b, c, d, e, f]) (.int (-1)) = some f := rfl
theorem d_len2 {a b : D} : dLen (.tup [a, b]) = some (.int 2) := rfl
theorem d_len3 {a b c : D} : dLen (.tup [a, b, c]) = some (.int 3) := rfl
theorem d_len4 {a b c d : D} : dLen (.tup [a, b, c, d]) = some (.int 4) := rfl
theorem d_len5 {a b c d e : D} : dLen (.tup [a, b, c, d, e]) = some (.int 5) := rfl
theorem d_len6 {a b c d e f : D} : dLen (.tup [a, b, c, d, e, f]) = some (.int 6) := rfl
theorem s_ll : decide (("leaf" : Str) = "leaf") = true := by decide +kernel
theorem s_il : decide (("inner" : Str) = "leaf") = false := by decide +kernel
theorem s_ii : decide (("inner" : Str) = "inner") = true := by decide +kernel
theorem s_fl : decide (("free" : Str) = "leaf") = false := by decide +kernel
theorem s_fi : decide (("free" : Str) = "inner") = false := by decide +kernel
theorem s_li : decide (("leaf" : Str) = "inner") = false := by decide +kernel
theorem s_ff : decide (("free" : Str) = "free") = true := by decide +kernel
theorem s_lf : decide (("leaf" : Str) = "free") = false := by decide +kernel
theorem s_if : decide (("inner" : Str) = "free") = false := by decide +kernel
theorem kb_tt : kitB "tuple" "tuple" = some true := by decide +kernel
theorem kb_ii : kitB "int" "int" = some true := by decide +kernel
theorem kb_ib : kitB "int" "bool" = some false := by decide +kernel
theorem kb_ni : kitB "NoneType" "int" = some false := by decide +kernel
theorem isi_tup {ds : List D} : dIsi "tuple" (.tup ds) = some (.bl true) := by show (kitB "tuple" "tuple").map D.bl = _; rw [kb_tt]; rfl
theorem isi_tI {ks : List Int} : dIsi "tuple" (tI ks) = some (.bl true) := isi_tup
theorem isi_int {i : Int} : dIsi "int" (.int i) = some (.bl true) := by show (kitB "int" "int").map D.bl = _; rw [kb_ii]; rfl
theorem isi_ib {i : Int} : dIsi "bool" (.int i) = some (.bl false) := by show (kitB "int" "bool").map D.bl = _; rw [kb_ib]; rfl
theorem isi_non : dIsi "int" .non = some (.bl false) := by show (kitB "NoneType" "int").map D.bl = _; rw [kb_ni]; rfl
theorem tI_map {ks : List Int} : tI ks = .tup (ks.map D.int) := rfl
theorem dtup_tI {ks : List Int} : dTuple (tI ks) = some (tI ks) := rfl
/-! loops -/
def forO : Option (List D) → (D → En → Option En) → FS → En → Option Out
  | some ds, bi, body, ρ => loopS bi body ds ρ
  | none, _, _, _ => none
def r1O : Option D → Option (List D)
  | some (.int n) => if smallI n then some (rngD 0 1 n.toNat) else none
  | _ => none
def r2O : Option D → Option D → Option (List D)
  | some (.int i), some (.int j) => if smallI i && smallI j then some (rngD i 1 (j - i).toNat) else none
  | _, _ => none
def r3O : Option D → Option D → Option (List D)
  | some (.int i), some (.int j) => if smallI i && smallI j then some (rngD i (-1) (i - j).toNat) else none
  | _, _ => none
def iTO : Option D → Option (List D)
  | some d => tupD d
  | none => none
def iLO : Option D → Option (List D)
  | some d => lstD d
  | none => none
def lcO : Option (List D) → (En → Option Bool) → FD → Nat → En → Option D
  | some ds, ft, fe, i, ρ => if ds.length ≤ 100000 then (compD ft fe i ρ ds).map D.lst else none
  | none, _, _, _, _ => none
section
variable {f g : FD} {fi : FI} {ft : En → Option Bool} {fe : FD} {bi : D → En → Option En} {body : FS} {ρ : En} {ds : List D} {i : Nat} {u v : Int}
theorem ev_for : gFor fi bi body ρ = forO (fi ρ) bi body ρ := by unfold gFor; cases fi ρ <;> rfl
theorem ev_r1 : iR1 f ρ = r1O (f ρ) := by
  unfold iR1
  cases f ρ with
  | none => rfl
  | some d => cases d <;> rfl
theorem ev_r2 : iR2 f g ρ = r2O (f ρ) (g ρ) := by
  unfold iR2
  cases f ρ with
  | none => rfl
  | some d => cases d <;> first | rfl | (cases g ρ with | none => rfl | some e => cases e <;> rfl)
theorem ev_r3 : iR3 f g ρ = r3O (f ρ) (g ρ) := by
  unfold iR3
  cases f ρ with
  | none => rfl
  | some d => cases d <;> first | rfl | (cases g ρ with | none => rfl | some e => cases e <;> rfl)
theorem ev_iT : iT f ρ = iTO (f ρ) := by unfold iT; cases f ρ <;> rfl
theorem ev_iL : iL f ρ = iLO (f ρ) := by unfold iL; cases f ρ <;> rfl
theorem ev_lc : fLc fi ft fe i ρ = lcO (fi ρ) ft fe i ρ := by unfold fLc; cases fi ρ <;> rfl
theorem ev_yes : fYes ρ = some true := rfl
theorem j_for : forO (some ds) bi body ρ = loopS bi body ds ρ := rfl
theorem j_r1 (h : smallI u = true) : r1O (some (.int u)) = some (rngD 0 1 u.toNat) := if_pos h
theorem j_r2 (h : (smallI u && smallI v) = true) : r2O (some (.int u)) (some (.int v)) = some (rngD u 1 (v - u).toNat) := if_pos h
theorem j_r3 (h : (smallI u && smallI v) = true) : r3O (some (.int u)) (some (.int v)) = some (rngD u (-1) (u - v).toNat) := if_pos h
theorem j_iT : iTO (some (.tup ds)) = some ds := rfl
theorem j_iTI {ks : List Int} : iTO (some (tI ks)) = some (ks.map D.int) := rfl
theorem j_iL : iLO (some (.lst ds)) = some ds := rfl
theorem j_lc (h : ds.length ≤ 100000) : lcO (some ds) ft fe i ρ = (compD ft fe i ρ ds).map D.lst := if_pos h
/-- a loop whose turns all pass -/
theorem loop_inv (I : Nat → En → Prop) : ∀ {ds : List D} {ρ : En} (j : Nat), I j ρ → (∀ i d ρ, ds[i]? = some d → I (j + i) ρ → ∃ ρ1 ρ2, bi d ρ = some ρ1 ∧ body ρ1 = some (.nx ρ2) ∧ I (j + i + 1) ρ2) → ∃ ρ', loopS bi body ds ρ = some (.nx ρ') ∧ I (j + ds.length) ρ'
  | [], ρ, j, h0, _ => ⟨ρ, rfl, h0⟩
  | d :: ds, ρ, j, h0, hs => by
    obtain ⟨ρ1, ρ2, e1, e2, h2⟩ := hs 0 d ρ rfl h0
    obtain ⟨ρ', e3, h3⟩ := loop_inv I (ds := ds) (ρ := ρ2) (j + 1) h2 fun i d' ρ3 hd h => by
      have := hs (i + 1) d' ρ3 (by simpa using hd) (by rw [show j + (i + 1) = j + 1 + i by omega]; exact h)
      rw [show j + (i + 1) + 1 = j + 1 + i + 1 by omega] at this
      exact this
    refine ⟨ρ', ?_, by rw [List.length_cons, show j + (ds.length + 1) = j + 1 + ds.length by omega]; exact h3⟩
    unfold loopS
    rw [e1]
    show (body ρ1).bind _ = _
    rw [e2]
    exact e3
/-- a loop that is left by a return -/
theorem loop_ret (I : Nat → En → Prop) {d' : D} {ρ' : En} : ∀ {ds : List D} {ρ : En} (j : Nat) (n : Nat), n < ds.length → I j ρ → (∀ i d ρ, i < n → ds[i]? = some d → I (j + i) ρ → ∃ ρ1 ρ2, bi d ρ = some ρ1 ∧ body ρ1 = some (.nx ρ2) ∧ I (j + i + 1) ρ2) →
    (∀ d ρ, ds[n]? = some d → I (j + n) ρ → ∃ ρ1 ρ2, bi d ρ = some ρ1 ∧ body ρ1 = some (.rt d' ρ2)) → ∃ ρ2, loopS bi body ds ρ = some (.rt d' ρ2)
  | [], ρ, j, n, hn, _, _, _ => by cases hn
  | d :: ds, ρ, j, 0, hn, h0, _, hr => by
    obtain ⟨ρ1, ρ2, e1, e2⟩ := hr d ρ rfl h0
    refine ⟨ρ2, ?_⟩
    unfold loopS
    rw [e1]
    show (body ρ1).bind _ = _
    rw [e2]
    rfl
  | d :: ds, ρ, j, n + 1, hn, h0, hs, hr => by
    obtain ⟨ρ1, ρ2, e1, e2, h2⟩ := hs 0 d ρ (by omega) rfl h0
    obtain ⟨ρ3, e3⟩ := loop_ret I (d' := d') (ds := ds) (ρ := ρ2) (ρ' := ρ') (j + 1) n (by simpa using hn) h2 (fun i d'' ρ3 hi hd h => by
      have := hs (i + 1) d'' ρ3 (by omega) (by simpa using hd) (by rw [show j + (i + 1) = j + 1 + i by omega]; exact h)
      rw [show j + (i + 1) + 1 = j + 1 + i + 1 by omega] at this
      exact this) (fun d'' ρ3 hd h => hr d'' ρ3 (by simpa using hd) (by rw [show j + (n + 1) = j + 1 + n by omega]; exact h))
    refine ⟨ρ3, ?_⟩
    unfold loopS
    rw [e1]
    show (body ρ1).bind _ = _
    rw [e2]
    exact e3
/-- a comprehension whose parts are known -/
theorem comp_eq (p : D → Bool) (h : D → D) : ∀ {ds : List D}, (∀ d ∈ ds, ft (ρ.set i (some (.fz d))) = some (p d) ∧ (p d = true → fe (ρ.set i (some (.fz d))) = some (h d))) → compD ft fe i ρ ds = some ((ds.filter p).map h)
  | [], _ => rfl
  | d :: ds, hs => by
    obtain ⟨e1, e2⟩ := hs d List.mem_cons_self
    have ih := comp_eq p h (ds := ds) fun x hx => hs x (List.mem_cons_of_mem _ hx)
    unfold compD
    rw [e1]
    show (if p d = true then _ else _) = _
    by_cases q : p d = true
    · rw [if_pos q, e2 q, ih, List.filter_cons_of_pos q]
      rfl
    · rw [if_neg q, ih, List.filter_cons_of_neg q]
theorem comp_all (h : D → D) {ds : List D} (hs : ∀ d ∈ ds, fe (ρ.set i (some (.fz d))) = some (h d)) : compD fYes fe i ρ ds = some (ds.map h) := by
  rw [comp_eq (fun _ => true) h fun d hd => ⟨rfl, fun _ => hs d hd⟩, List.filter_eq_self.mpr fun _ _ => rfl]
end
theorem small_ok {i : Int} (h1 : -1000000 ≤ i) (h2 : i ≤ 1000000) : smallI i = true := by simp [smallI, h1, h2]
theorem all_true {ds : List D} (h : ds.length ≤ 100000) {fe : FD} {i : Nat} {ρ : En} (hs : ∀ d ∈ ds, fe (ρ.set i (some (.fz d))) = some (.bl true)) : b1 dAll (lcO (some ds) fYes fe i ρ) = some (.bl true) := by
  rw [j_lc h, comp_all (fun _ => .bl true) hs]
  show dAll (.lst (ds.map fun _ => .bl true)) = _
  have e : ds.map (fun _ => D.bl true) = (ds.map fun _ => true).map D.bl := by rw [List.map_map]; rfl
  rw [e]
  show (bls ((ds.map fun _ => true).map D.bl)).map (fun bs => D.bl (bs.all id)) = _
  rw [bls_map]
  simp
local macro_rules | `(tactic| walk_at "ev") => `(tactic| simp only [ev_f2, ev_f1, ev_fC, ev_v0, ev_vs, ev_c0, ev_c1, ev_c2, ev_cs, ev_call, ev_all0, ev_all1, ev_tup, ev_lst, ev_T, ev_andT, ev_orT, ev_notT, ev_and, ev_or, ev_not, ev_if, ev_seq, ev_nx, ev_bk, ev_no, ev_set, ev_M, ev_ret, ev_drop, ev_un, ev_ns1, ev_ns0, ev_sl, ev_o0, ev_o1, ev_neg, ev_ch, ev_fz0, ev_fz1, ev_fz2, ev_fz3, ev_fz4, ev_fz5, ev_st0, ev_sts, fn_0, fn_1, fn_2, fn_3, fn_4, fn_5,
  j_b1, j_b2, j_bL, j_cL, j_mD, j_bT, j_andT, j_andF, j_orF, j_orT, j_not, j_bl, j_aDT, j_aDF, j_oDF, j_oDT, j_ifT, j_ifF, j_seqN, j_seqR, j_seqB, j_set, j_pM, j_ret, j_drop, j_un, j_sl, j_some, j_chT, j_chF, j_chP, j_endR, j_endN, j_nones0, j_nonesS, ix0, ix1, ix2, ix3, ix4, ix5,
  d_lt, d_le, d_gt, d_ge, d_addI, d_sub, d_lenL, d_eqI, d_eqS, d_eqNI, d_eqIN, d_eqNN, d_neI, d_neS, d_neNI, d_neIN, d_neNN, d_isNN, d_isNI, d_isNB, d_isNT, d_isND, d_notNN, d_notNI, d_notNT, d_notND, d_slT, d_neg, d_tupT, d_tupL, d_listL, d_dict, d_intI, d_intB,
  List.length_cons, List.length_nil, Nat.reduceAdd, Nat.reduceSub, if_true, if_false, reduceIte, Bool.not_true, Bool.not_false, decide_true, decide_false, Bool.false_eq_true, tI_len, ev_for, ev_r1, ev_r2, ev_r3, ev_iT, ev_iL, ev_lc, ev_yes, j_for, j_iT, j_iTI, j_iL, isi_tup, isi_tI, isi_int, isi_ib, isi_non, dtup_tI, cut51, cut61, cut62, cut605, cut513, cut624, ixm5, ixm6, d_len2, d_len3, d_len4, d_len5, d_len6, s_ll, s_il, s_ii, s_fl, s_fi, s_li, s_ff, s_lf, s_if, eq_self, Int.reduceLT, Int.reduceLE, Int.reduceEq, Int.reduceNeg])
local macro_rules | `(tactic| walk_at "evh") => `(tactic| simp only [*, ev_f2, ev_f1, ev_fC, ev_v0, ev_vs, ev_c0, ev_c1, ev_c2, ev_cs, ev_call, ev_all0, ev_all1, ev_tup, ev_lst, ev_T, ev_andT, ev_orT, ev_notT, ev_and, ev_or, ev_not, ev_if, ev_seq, ev_nx, ev_bk, ev_no, ev_set, ev_M, ev_ret, ev_drop, ev_un, ev_ns1, ev_ns0, ev_sl, ev_o0, ev_o1, ev_neg, ev_ch, ev_fz0, ev_fz1, ev_fz2, ev_fz3, ev_fz4, ev_fz5, ev_st0, ev_sts, fn_0, fn_1, fn_2, fn_3, fn_4, fn_5,
  j_b1, j_b2, j_bL, j_cL, j_mD, j_bT, j_andT, j_andF, j_orF, j_orT, j_not, j_bl, j_aDT, j_aDF, j_oDF, j_oDT, j_ifT, j_ifF, j_seqN, j_seqR, j_seqB, j_set, j_pM, j_ret, j_drop, j_un, j_sl, j_some, j_chT, j_chF, j_chP, j_endR, j_endN, j_nones0, j_nonesS, ix0, ix1, ix2, ix3, ix4, ix5,
  d_lt, d_le, d_gt, d_ge, d_addI, d_sub, d_lenL, d_eqI, d_eqS, d_eqNI, d_eqIN, d_eqNN, d_neI, d_neS, d_neNI, d_neIN, d_neNN, d_isNN, d_isNI, d_isNB, d_isNT, d_isND, d_notNN, d_notNI, d_notNT, d_notND, d_slT, d_neg, d_tupT, d_tupL, d_listL, d_dict, d_intI, d_intB,
  List.length_cons, List.length_nil, Nat.reduceAdd, Nat.reduceSub, if_true, if_false, reduceIte, Bool.not_true, Bool.not_false, decide_true, decide_false, Bool.false_eq_true, tI_len, ev_for, ev_r1, ev_r2, ev_r3, ev_iT, ev_iL, ev_lc, ev_yes, j_for, j_iT, j_iTI, j_iL, isi_tup, isi_tI, isi_int, isi_ib, isi_non, dtup_tI, cut51, cut61, cut62, cut605, cut513, cut624, ixm5, ixm6, d_len2, d_len3, d_len4, d_len5, d_len6, s_ll, s_il, s_ii, s_fl, s_fi, s_li, s_ff, s_lf, s_if, eq_self, Int.reduceLT, Int.reduceLE, Int.reduceEq, Int.reduceNeg])

theorem is_integer_int {i : Int} : fn_is_integer [.int i] = some (.bl true) := by
  unfold fn_is_integer g_is_integer
  walk_at "ev"
theorem is_integer_non : fn_is_integer [.non] = some (.bl false) := by
  unfold fn_is_integer g_is_integer
  walk_at "ev"
theorem is_bound_bd {o : Option Int} : fn_is_bound [bd o] = some (.bl true) := by
  unfold fn_is_bound g_is_bound
  cases o with
  | none =>
    unfold bd
    walk_at "ev"
  | some i =>
    unfold bd
    walk_at "ev"
    simp only [is_integer_int]
    walk_at "ev"
theorem are_integers_tI {ks : List Int} (h : ks.length ≤ 100000) : fn_are_integers [tI ks] = some (.bl true) := by
  unfold fn_are_integers g_are_integers
  walk_at "ev"
  rw [all_true (by simpa using h) fun d hd => by
    obtain ⟨k, _, rfl⟩ := List.mem_map.mp hd
    walk_at "ev"
    exact is_integer_int]
  walk_at "ev"
theorem are_ascending_tI {ks : List Int} (h : ks.length ≤ 1000) (ha : ks.Pairwise (· < ·)) : fn_are_ascending [tI ks] = some (.bl true) := by
  unfold fn_are_ascending g_are_ascending
  walk_at "ev"
  rw [j_r2 (by rw [small_ok (by omega) (by omega), small_ok (by omega) (by omega)]; rfl)]
  walk_at "ev"
  obtain ⟨ρ', e, x, rfl⟩ := loop_inv (bi := bName 1) (body := gIf (fT (f2 dGe (f2 dIx (fVar 0) (f2 dSub (fVar 1) (fC (.int 1)))) (f2 dIx (fVar 0) (fVar 1)))) (gRet (fM (fC (.bl false)))) gNx)
    (fun _ ρ => ∃ x, ρ = [some (.fz (tI ks)), x]) (ds := rngD 1 1 (((ks.length : Int)) - 1).toNat) (ρ := [some (.fz (tI ks)), none]) 0 ⟨none, rfl⟩ (by
      rintro i d ρ hd ⟨x, rfl⟩
      obtain ⟨hi, rfl⟩ := rngD_get hd
      refine ⟨[some (.fz (tI ks)), some (.fz (.int (1 + (i : Int) * 1)))], [some (.fz (tI ks)), some (.fz (.int (1 + (i : Int) * 1)))], rfl, ?_, _, rfl⟩
      have h1 : i < ks.length := by omega
      have h2 : i + 1 < ks.length := by omega
      have e1 : (1 + (i : Int) * 1 - 1) = ((i : Nat) : Int) := by omega
      have e2 : (1 + (i : Int) * 1) = ((i + 1 : Nat) : Int) := by omega
      have hlt : ks[i] < ks[i + 1] := List.pairwise_iff_getElem.mp ha i (i + 1) h1 h2 (by omega)
      walk_at "ev"
      rw [e1, e2, tI_ix (List.getElem?_eq_getElem h1), tI_ix (List.getElem?_eq_getElem h2)]
      walk_at "ev"
      rw [decide_eq_false (by omega)]
      walk_at "ev")
  rw [e]
  walk_at "ev"
theorem is_above_bd {lo : Option Int} {k : Int} (h : geLo lo k) : fn_is_above [.int k, bd lo] = some (.bl true) := by
  unfold fn_is_above g_is_above
  cases lo with
  | none =>
    unfold bd
    walk_at "ev"
  | some l =>
    unfold bd
    walk_at "ev"
    rw [decide_eq_true (h l rfl)]
theorem is_below_bd {hi : Option Int} {k : Int} (h : ltHi hi k) : fn_is_below [.int k, bd hi] = some (.bl true) := by
  unfold fn_is_below g_is_below
  cases hi with
  | none =>
    unfold bd
    walk_at "ev"
  | some l =>
    unfold bd
    walk_at "ev"
    rw [decide_eq_true (h l rfl)]
theorem lh_step {lo hi : Option Int} (h : ∀ l h, lo = some l → hi = some h → l < h) : lo = none ∨ ∃ l, lo = some l ∧ ltHi hi l := by
  cases lo with
  | none => exact .inl rfl
  | some l => exact .inr ⟨l, rfl, fun x e => h l x rfl e⟩
theorem is_leaf_ok {lo hi : Option Int} {ks vs : List Int} (O : OkL lo hi ks vs) : fn_is_leaf [enc (.leaf lo hi ks vs)] = some (.bl true) := by
  have few := O.few
  have len := O.len
  have x1 := @is_bound_bd lo
  have x2 := @is_bound_bd hi
  have x3 := are_integers_tI (ks := ks) (by omega)
  have x4 := are_integers_tI (ks := vs) (by omega)
  have x5 := are_ascending_tI few O.asc
  have e1 : decide ((ks.length : Int) = (vs.length : Int)) = true := decide_eq_true (by rw [len])
  have fin : ∀ b c, b1 dAll (lcO (some (ks.map D.int)) fYes (fAnd (fCall fn_is_above [fVar 5, fVar 1]) (fCall fn_is_below [fVar 5, fVar 2])) 5 [c, some (.fz (bd lo)), some (.fz (bd hi)), some (.fz (tI ks)), some (.fz (tI vs)), b]) = some (.bl true) := fun b c =>
    all_true (by simp; omega) fun d hd => by
      obtain ⟨k, hk, rfl⟩ := List.mem_map.mp hd
      obtain ⟨c1, c2⟩ := O.cov k hk
      have y1 := is_above_bd c1
      have y2 := is_below_bd c2
      clear x3 x4 x5 e1 hd hk c1 c2 O len few
      walk_at "evh"
  unfold fn_is_leaf g_is_leaf
  rw [enc_leaf]
  rcases lh_step O.lh with rfl | ⟨l, rfl, hl⟩
  · have ebd : bd none = .non := rfl
    rw [ebd] at fin x1 ⊢
    clear len few O
    walk_at "evh"
  · have ebd : bd (some l) = .int l := rfl
    have y2 := is_below_bd hl
    rw [ebd] at fin x1 ⊢
    clear len few O hl
    walk_at "evh"
theorem is_inner_ok {lv : Int} {lo hi : Option Int} {ks ps : List Int} (O : OkI lv lo hi ks ps) : fn_is_inner [enc (.inner lv lo hi ks ps)] = some (.bl true) := by
  have few := O.few
  have len := O.len
  have x0 := @is_integer_int lv
  have x1 := @is_bound_bd lo
  have x2 := @is_bound_bd hi
  have x3 := are_integers_tI (ks := ks) (by omega)
  have x4 := are_integers_tI (ks := ps) (by omega)
  have x5 := are_ascending_tI few O.asc
  have e0 : decide (lv < 1) = false := decide_eq_false (by have := O.lv; omega)
  have e1 : decide ((ps.length : Int) = (ks.length : Int) + 1) = true := decide_eq_true (by omega)
  have fin : ∀ b c, b1 dAll (lcO (some (ks.map D.int)) fYes (fAnd (fOr (f2 dIsN (fVar 1) (fC .non)) (f2 dGt (fVar 5) (fVar 1))) (fCall fn_is_below [fVar 5, fVar 2])) 5 [c, some (.fz (bd lo)), some (.fz (bd hi)), some (.fz (tI ks)), some (.fz (tI ps)), b]) = some (.bl true) := fun b c =>
    all_true (by simp; omega) fun d hd => by
      obtain ⟨k, hk, rfl⟩ := List.mem_map.mp hd
      obtain ⟨c1, c2⟩ := O.ins k hk
      have y2 := is_below_bd c2
      clear x3 x4 x5 e1 hd hk c2 len few
      cases lo with
      | none =>
        have ebd : bd none = .non := rfl
        rw [ebd]
        clear O c1 x1 x2 x0 e0
        walk_at "evh"
      | some l =>
        have ebd : bd (some l) = .int l := rfl
        have y1 : decide (l < k) = true := decide_eq_true (c1 l rfl)
        rw [ebd]
        clear O c1 x1 x2 x0 e0
        walk_at "evh"
  unfold fn_is_inner g_is_inner
  rw [enc_inner]
  rcases lh_step O.lh with rfl | ⟨l, rfl, hl⟩
  · have ebd : bd none = .non := rfl
    rw [ebd] at fin x1 ⊢
    clear len few O
    walk_at "evh"
  · have ebd : bd (some l) = .int l := rfl
    have y2 := is_below_bd hl
    rw [ebd] at fin x1 ⊢
    clear len few O hl
    walk_at "evh"
theorem checked_leaf {lo hi : Option Int} {ks vs : List Int} (O : OkL lo hi ks vs) : fn_checked [enc (.leaf lo hi ks vs)] = some (enc (.leaf lo hi ks vs)) := by
  have x := is_leaf_ok O
  have y : fn_is_record [enc (.leaf lo hi ks vs)] = some (.bl true) := by
    clear O
    rw [enc_leaf] at x ⊢
    unfold fn_is_record g_is_record
    walk_at "evh"
  clear O x
  unfold fn_checked g_checked
  walk_at "evh"
theorem checked_inner {lv : Int} {lo hi : Option Int} {ks ps : List Int} (O : OkI lv lo hi ks ps) : fn_checked [enc (.inner lv lo hi ks ps)] = some (enc (.inner lv lo hi ks ps)) := by
  have x := is_inner_ok O
  have y : fn_is_record [enc (.inner lv lo hi ks ps)] = some (.bl true) := by
    clear O
    rw [enc_inner] at x ⊢
    unfold fn_is_record g_is_record
    walk_at "evh"
  clear O x
  unfold fn_checked g_checked
  walk_at "evh"
theorem leaf_ok {lo hi : Option Int} {ks vs : List Int} (O : OkL lo hi ks vs) : fn_leaf [bd lo, bd hi, tI ks, tI vs] = some (enc (.leaf lo hi ks vs)) := by
  have x := checked_leaf O
  clear O
  rw [enc_leaf] at x ⊢
  unfold fn_leaf g_leaf
  walk_at "evh"
theorem inner_ok {lv : Int} {lo hi : Option Int} {ks ps : List Int} (O : OkI lv lo hi ks ps) : fn_inner [.int lv, bd lo, bd hi, tI ks, tI ps] = some (enc (.inner lv lo hi ks ps)) := by
  have x := checked_inner O
  clear O
  rw [enc_inner] at x ⊢
  unfold fn_inner g_inner
  walk_at "evh"
/-! readers -/
def lvl : Rc → Int
  | .leaf .. => 0
  | .inner lv .. => lv
  | .free _ => -1
def lo_ : Rc → Option Int
  | .leaf lo .. => lo
  | .inner _ lo .. => lo
  | .free _ => none
def hi_ : Rc → Option Int
  | .leaf _ hi .. => hi
  | .inner _ _ hi .. => hi
  | .free _ => none
def sz : Rc → Nat
  | .leaf _ _ ks _ => ks.length
  | .inner _ _ _ _ ps => ps.length
  | .free _ => 0
def isF : Rc → Bool
  | .free _ => true
  | _ => false
def Ok : Rc → Prop
  | .leaf lo hi ks vs => OkL lo hi ks vs
  | .inner lv lo hi ks ps => OkI lv lo hi ks ps
  | .free _ => True
theorem lvl_leaf {lo hi ks vs} : lvl (.leaf lo hi ks vs) = 0 := rfl
theorem lvl_inner {lv lo hi ks ps} : lvl (.inner lv lo hi ks ps) = lv := rfl
theorem lvl_free {n} : lvl (.free n) = -1 := rfl
theorem lo_leaf {lo hi ks vs} : lo_ (.leaf lo hi ks vs) = lo := rfl
theorem lo_inner {lv lo hi ks ps} : lo_ (.inner lv lo hi ks ps) = lo := rfl
theorem hi_leaf {lo hi ks vs} : hi_ (.leaf lo hi ks vs) = hi := rfl
theorem hi_inner {lv lo hi ks ps} : hi_ (.inner lv lo hi ks ps) = hi := rfl
theorem sz_leaf {lo hi ks vs} : sz (.leaf lo hi ks vs) = ks.length := rfl
theorem sz_inner {lv lo hi ks ps} : sz (.inner lv lo hi ks ps) = ps.length := rfl
theorem level_of_enc (r : Rc) : fn_level_of [enc r] = some (.int (lvl r)) := by
  unfold fn_level_of g_level_of
  cases r <;> simp only [enc_leaf, enc_inner, enc_free, lvl_leaf, lvl_inner, lvl_free] <;> walk_at "ev"
theorem bounds_of_enc {r : Rc} (h : isF r = false) : fn_bounds_of [enc r] = some (.tup [bd (lo_ r), bd (hi_ r)]) := by
  unfold fn_bounds_of g_bounds_of
  cases r with
  | free n => cases h
  | _ => simp only [enc_leaf, enc_inner, lo_leaf, lo_inner, hi_leaf, hi_inner]; walk_at "ev"
theorem size_of_enc {r : Rc} (O : Ok r) (h : isF r = false) : fn_size_of [enc r] = some (.int (sz r)) := by
  unfold fn_size_of g_size_of
  cases r with
  | free n => cases h
  | leaf lo hi ks vs =>
    have e := O.len
    rw [enc_leaf, sz_leaf]
    walk_at "ev"
    rw [e]
  | inner lv lo hi ks ps =>
    rw [enc_inner, sz_inner]
    walk_at "ev"
theorem most_of_enc {r : Rc} (O : Ok r) (h : isF r = false) : fn_most_of [enc r] = some (.int (if lvl r = 0 then 4 else 5)) := by
  have x := level_of_enc r
  unfold fn_most_of g_most_of
  clear O
  by_cases q : lvl r = 0
  · rw [if_pos q]
    have e : decide (lvl r = 0) = true := decide_eq_true q
    clear q
    walk_at "evh"
  · rw [if_neg q]
    have e : decide (lvl r = 0) = false := decide_eq_false q
    clear q
    walk_at "evh"
theorem cb_lo {lo : Option Int} {ks : List Int} {i : Nat} (h : i ≤ ks.length) : (decide ((0 : Int) < (i : Int)) = true ∧ ∃ x, dIx (tI ks) (.int ((i : Int) - 1)) = some (.int x) ∧ bd (cbLo lo ks i) = .int x) ∨ (decide ((0 : Int) < (i : Int)) = false ∧ cbLo lo ks i = lo) := by
  by_cases h0 : 0 < i
  · refine .inl ⟨decide_eq_true (by omega), ks[i - 1]'(by omega), ?_, ?_⟩
    · rw [show ((i : Int) - 1) = ((i - 1 : Nat) : Int) by omega]
      exact tI_ix (List.getElem?_eq_getElem (by omega))
    · unfold cbLo
      rw [if_pos h0, List.getElem?_eq_getElem (by omega)]
      rfl
  · refine .inr ⟨decide_eq_false (by omega), ?_⟩
    unfold cbLo
    rw [if_neg h0]
theorem cb_hi {hi : Option Int} {ks : List Int} {i : Nat} : (decide ((i : Int) < (ks.length : Int)) = true ∧ ∃ x, dIx (tI ks) (.int (i : Int)) = some (.int x) ∧ bd (cbHi hi ks i) = .int x) ∨ (decide ((i : Int) < (ks.length : Int)) = false ∧ cbHi hi ks i = hi) := by
  by_cases h0 : i < ks.length
  · refine .inl ⟨decide_eq_true (by omega), ks[i], ?_, ?_⟩
    · exact tI_ix (List.getElem?_eq_getElem (by omega))
    · unfold cbHi
      rw [if_pos h0, List.getElem?_eq_getElem (by omega)]
      rfl
  · refine .inr ⟨decide_eq_false (by omega), ?_⟩
    unfold cbHi
    rw [if_neg h0]
theorem child_bounds_inner {lv : Int} {lo hi : Option Int} {ks ps : List Int} {i : Nat} (h : i ≤ ks.length) : fn_child_bounds [enc (.inner lv lo hi ks ps), .int i] = some (.tup [bd (cbLo lo ks i), bd (cbHi hi ks i)]) := by
  unfold fn_child_bounds g_child_bounds
  rw [enc_inner]
  rcases cb_lo (lo := lo) h with ⟨h1, x, h2, h3⟩ | ⟨h1, h3⟩ <;> rcases cb_hi (hi := hi) (ks := ks) (i := i) with ⟨h4, y, h5, h6⟩ | ⟨h4, h6⟩ <;> clear h <;> walk_at "evh"
end K32
end
section
set_option Elab.async false
set_option linter.all false
set_option maxRecDepth 100000
set_option maxHeartbeats 4000000
/-! the nodes' changes: what each def gives -/
namespace K32
open PySem PySem.Spec PyProof.Rows L2
local macro_rules | `(tactic| walk_at "ev") => `(tactic| simp only [ev_f2, ev_f1, ev_fC, ev_v0, ev_vs, ev_c0, ev_c1, ev_c2, ev_cs, ev_call, ev_all0, ev_all1, ev_tup, ev_lst, ev_T, ev_andT, ev_orT, ev_notT, ev_and, ev_or, ev_not, ev_if, ev_seq, ev_nx, ev_bk, ev_no, ev_set, ev_M, ev_ret, ev_drop, ev_un, ev_ns1, ev_ns0, ev_sl, ev_o0, ev_o1, ev_neg, ev_ch, ev_fz0, ev_fz1, ev_fz2, ev_fz3, ev_fz4, ev_fz5, ev_st0, ev_sts, fn_0, fn_1, fn_2, fn_3, fn_4, fn_5,
  j_b1, j_b2, j_bL, j_cL, j_mD, j_bT, j_andT, j_andF, j_orF, j_orT, j_not, j_bl, j_aDT, j_aDF, j_oDF, j_oDT, j_ifT, j_ifF, j_seqN, j_seqR, j_seqB, j_set, j_pM, j_ret, j_drop, j_un, j_sl, j_some, j_chT, j_chF, j_chP, j_endR, j_endN, j_nones0, j_nonesS, ix0, ix1, ix2, ix3, ix4, ix5,
  d_lt, d_le, d_gt, d_ge, d_addI, d_sub, d_lenL, d_eqI, d_eqS, d_eqNI, d_eqIN, d_eqNN, d_neI, d_neS, d_neNI, d_neIN, d_neNN, d_isNN, d_isNI, d_isNB, d_isNT, d_isND, d_notNN, d_notNI, d_notNT, d_notND, d_slT, d_neg, d_tupT, d_tupL, d_listL, d_dict, d_intI, d_intB,
  List.length_cons, List.length_nil, Nat.reduceAdd, Nat.reduceSub, if_true, if_false, reduceIte, Bool.not_true, Bool.not_false, decide_true, decide_false, Bool.false_eq_true, tI_len, ev_for, ev_r1, ev_r2, ev_r3, ev_iT, ev_iL, ev_lc, ev_yes, j_for, j_iT, j_iTI, j_iL, isi_tup, isi_tI, isi_int, isi_ib, isi_non, dtup_tI, cut51, cut61, cut62, cut605, cut513, cut624, ixm5, ixm6, d_len2, d_len3, d_len4, d_len5, d_len6, s_ll, s_il, s_ii, s_fl, s_fi, s_li, s_ff, s_lf, s_if, eq_self, Int.reduceLT, Int.reduceLE, Int.reduceEq, Int.reduceNeg])
local macro_rules | `(tactic| walk_at "evh") => `(tactic| simp only [*, ev_f2, ev_f1, ev_fC, ev_v0, ev_vs, ev_c0, ev_c1, ev_c2, ev_cs, ev_call, ev_all0, ev_all1, ev_tup, ev_lst, ev_T, ev_andT, ev_orT, ev_notT, ev_and, ev_or, ev_not, ev_if, ev_seq, ev_nx, ev_bk, ev_no, ev_set, ev_M, ev_ret, ev_drop, ev_un, ev_ns1, ev_ns0, ev_sl, ev_o0, ev_o1, ev_neg, ev_ch, ev_fz0, ev_fz1, ev_fz2, ev_fz3, ev_fz4, ev_fz5, ev_st0, ev_sts, fn_0, fn_1, fn_2, fn_3, fn_4, fn_5,
  j_b1, j_b2, j_bL, j_cL, j_mD, j_bT, j_andT, j_andF, j_orF, j_orT, j_not, j_bl, j_aDT, j_aDF, j_oDF, j_oDT, j_ifT, j_ifF, j_seqN, j_seqR, j_seqB, j_set, j_pM, j_ret, j_drop, j_un, j_sl, j_some, j_chT, j_chF, j_chP, j_endR, j_endN, j_nones0, j_nonesS, ix0, ix1, ix2, ix3, ix4, ix5,
  d_lt, d_le, d_gt, d_ge, d_addI, d_sub, d_lenL, d_eqI, d_eqS, d_eqNI, d_eqIN, d_eqNN, d_neI, d_neS, d_neNI, d_neIN, d_neNN, d_isNN, d_isNI, d_isNB, d_isNT, d_isND, d_notNN, d_notNI, d_notNT, d_notND, d_slT, d_neg, d_tupT, d_tupL, d_listL, d_dict, d_intI, d_intB,
  List.length_cons, List.length_nil, Nat.reduceAdd, Nat.reduceSub, if_true, if_false, reduceIte, Bool.not_true, Bool.not_false, decide_true, decide_false, Bool.false_eq_true, tI_len, ev_for, ev_r1, ev_r2, ev_r3, ev_iT, ev_iL, ev_lc, ev_yes, j_for, j_iT, j_iTI, j_iL, isi_tup, isi_tI, isi_int, isi_ib, isi_non, dtup_tI, cut51, cut61, cut62, cut605, cut513, cut624, ixm5, ixm6, d_len2, d_len3, d_len4, d_len5, d_len6, s_ll, s_il, s_ii, s_fl, s_fi, s_li, s_ff, s_lf, s_if, eq_self, Int.reduceLT, Int.reduceLE, Int.reduceEq, Int.reduceNeg])

theorem tI1 {k : Int} : D.tup [.int k] = tI [k] := rfl
theorem tI_cat {a b : List Int} (h : a.length + b.length ≤ 100000) : dAdd (tI a) (tI b) = some (tI (a ++ b)) := by
  show dAdd (.tup (a.map D.int)) (.tup (b.map D.int)) = some (.tup ((a ++ b).map D.int))
  rw [d_catP (by simpa using h), List.map_append]
theorem sl_l {a b : List Int} {n : Int} (h : n = (a.length : Int)) : dSl none (some n) (tI (a ++ b)) = some (tI a) := by
  rw [h, sl_take, List.take_left]
theorem sl_r {a b : List Int} {n : Int} (h : n = (a.length : Int)) : dSl (some n) none (tI (a ++ b)) = some (tI b) := by
  rw [h, sl_drop, List.drop_left]
theorem sl_r1 {a b : List Int} {x : Int} {n : Int} (h : n = (a.length : Int) + 1) : dSl (some n) none (tI (a ++ x :: b)) = some (tI b) := by
  rw [show a ++ x :: b = (a ++ [x]) ++ b by simp]
  exact sl_r (by simpa using h)
theorem sl_l1 {a b : List Int} {x : Int} {n : Int} (h : n = (a.length : Int) + 1) : dSl none (some n) (tI (a ++ x :: b)) = some (tI (a ++ [x])) := by
  rw [show a ++ x :: b = (a ++ [x]) ++ b by simp]
  exact sl_l (by simpa using h)
theorem ix_mid {a b : List Int} {x : Int} {n : Int} (h : n = (a.length : Int)) : dIx (tI (a ++ x :: b)) (.int n) = some (.int x) := by
  rw [h]
  exact tI_ix (by simp)
theorem filter_len {a b : List Int} {k : Int} (ha : ∀ x ∈ a, x < k) (hb : ∀ x ∈ b, ¬ x < k) : (((a ++ b).map D.int).filter fun d => match d with
    | .int x => decide (x < k)
    | _ => false).length = a.length := by
  rw [List.filter_map, List.filter_append, List.length_map, List.length_append]
  have e1 : a.filter ((fun d : D => match d with
    | .int x => decide (x < k)
    | _ => false) ∘ D.int) = a := List.filter_eq_self.mpr fun x hx => decide_eq_true (ha x hx)
  have e2 : b.filter ((fun d : D => match d with
    | .int x => decide (x < k)
    | _ => false) ∘ D.int) = [] := List.filter_eq_nil_iff.mpr fun x hx => by simp [hb x hx]
  rw [e1, e2]
  simp
def ltk (k : Int) (d : D) : Bool := match d with
    | .int x => decide (x < k)
    | _ => false
theorem place_ok {a b : List Int} {k : Int} (h : (a ++ b).length ≤ 100000) (ha : ∀ x ∈ a, x < k) (hb : ∀ x ∈ b, ¬ x < k) : fn_place_of [tI (a ++ b), .int k] = some (.int a.length) := by
  have h2 : ((a ++ b).map D.int).length ≤ 100000 := by rw [List.length_map]; exact h
  have e : ∀ c, lcO (some ((a ++ b).map D.int)) (fT (f2 dLt (fVar 2) (fVar 1))) (fVar 2) 2 [some (.fz (tI (a ++ b))), some (.fz (.int k)), c] = some (.lst ((((a ++ b).map D.int).filter (ltk k)).map id)) := fun c => by
    rw [j_lc h2, comp_eq (ltk k) id fun d hd => by
      obtain ⟨x, hx, rfl⟩ := List.mem_map.mp hd
      refine ⟨?_, fun _ => ?_⟩
      · clear hd h h2 ha hb hx
        walk_at "ev"
        rfl
      · rfl]
    rfl
  have e2 : ((((a ++ b).map D.int).filter (ltk k)).map id).length = a.length := by rw [List.length_map]; exact filter_len ha hb
  unfold fn_place_of g_place_of
  clear h h2 ha hb
  walk_at "ev"
  rw [e none]
  clear e
  walk_at "ev"
  rw [e2]
/-- a key's place in ascending keys -/
theorem split_key {ks vs : List Int} (asc : ks.Pairwise (· < ·)) (len : ks.length = vs.length) (k : Int) :
    (∃ a b c d, ks = a ++ b ∧ vs = c ++ d ∧ a.length = c.length ∧ b.length = d.length ∧ (∀ x ∈ a, x < k) ∧ (∀ x ∈ b, k < x)) ∨
    (∃ a b c v d, ks = a ++ k :: b ∧ vs = c ++ v :: d ∧ a.length = c.length ∧ b.length = d.length ∧ (∀ x ∈ a, x < k) ∧ (∀ x ∈ b, k < x)) := by
  induction ks generalizing vs with
  | nil => exact .inl ⟨[], [], [], vs, rfl, rfl, rfl, len, by simp, by simp⟩
  | cons x ks ih =>
    obtain ⟨y, vs, rfl⟩ : ∃ y vs', vs = y :: vs' := by
      cases vs with
      | nil => simp at len
      | cons y vs => exact ⟨y, vs, rfl⟩
    have len' : ks.length = vs.length := by simpa using len
    obtain ⟨p1, p2⟩ := List.pairwise_cons.mp asc
    rcases Int.lt_trichotomy x k with h | h | h
    · rcases ih p2 len' with ⟨a, b, c, d, rfl, rfl, e1, e2, h1, h2⟩ | ⟨a, b, c, v, d, rfl, rfl, e1, e2, h1, h2⟩
      · refine .inl ⟨x :: a, b, y :: c, d, rfl, rfl, by simp [e1], e2, fun z hz => ?_, h2⟩
        rcases List.mem_cons.mp hz with rfl | hz
        · exact h
        · exact h1 z hz
      · refine .inr ⟨x :: a, b, y :: c, v, d, rfl, rfl, by simp [e1], e2, fun z hz => ?_, h2⟩
        rcases List.mem_cons.mp hz with rfl | hz
        · exact h
        · exact h1 z hz
    · subst h
      exact .inr ⟨[], ks, [], y, vs, rfl, rfl, rfl, len', by simp, fun z hz => p1 z hz⟩
    · refine .inl ⟨[], x :: ks, [], y :: vs, rfl, rfl, rfl, len, by simp, fun z hz => ?_⟩
      rcases List.mem_cons.mp hz with rfl | hz
      · exact h
      · have := p1 z hz
        omega
def b_value_in : FS := (gIf (fT (f2 dEq (f2 dIx (f2 dIx (fVar 0) (fC (.int 3))) (fVar 2)) (fVar 1))) (gRet (fM (f2 dIx (f2 dIx (fVar 0) (fC (.int 4))) (fVar 2)))) gNx)
theorem value_in_no {lo hi : Option Int} {ks vs : List Int} {k : Int} (h : ks.length ≤ 1000) (hk : ∀ x ∈ ks, x ≠ k) : fn_value_in [enc (.leaf lo hi ks vs), .int k] = some .non := by
  unfold fn_value_in g_value_in
  rw [enc_leaf]
  walk_at "ev"
  rw [j_r1 (small_ok (by omega) (by omega))]
  walk_at "ev"
  obtain ⟨ρ', e, x, rfl⟩ := loop_inv (bi := bName 2) (body := b_value_in)
    (fun _ ρ => ∃ x, ρ = [some (.fz (.tup [.str "leaf", bd lo, bd hi, tI ks, tI vs])), some (.fz (.int k)), x]) (ds := rngD 0 1 ((ks.length : Int)).toNat) (ρ := [some (.fz (.tup [.str "leaf", bd lo, bd hi, tI ks, tI vs])), some (.fz (.int k)), none]) 0 ⟨none, rfl⟩ (by
      rintro i d ρ hd ⟨x, rfl⟩
      obtain ⟨hin, rfl⟩ := rngD_get hd
      have h1 : i < ks.length := by omega
      have e1 : dIx (tI ks) (.int (0 + (i : Int) * 1)) = some (.int ks[i]) := by
        rw [show 0 + (i : Int) * 1 = (i : Int) by omega]
        exact tI_ix (List.getElem?_eq_getElem h1)
      have e2 : decide (ks[i] = k) = false := decide_eq_false (hk _ (List.getElem_mem h1))
      refine ⟨_, _, rfl, ?_, ⟨some (.fz (.int (0 + (i : Int) * 1))), rfl⟩⟩
      unfold b_value_in sFz
      walk_at "ev"
      rw [e1]
      walk_at "ev"
      rw [e2]
      walk_at "ev")
  unfold b_value_in at e
  rw [e]
  walk_at "ev"
theorem value_in_yes {lo hi : Option Int} {a b c d : List Int} {k v : Int} (h : (a ++ k :: b).length ≤ 1000) (hac : a.length = c.length) (hk : ∀ x ∈ a, x < k) : fn_value_in [enc (.leaf lo hi (a ++ k :: b) (c ++ v :: d)), .int k] = some (.int v) := by
  unfold fn_value_in g_value_in
  rw [enc_leaf]
  walk_at "ev"
  rw [j_r1 (small_ok (by omega) (by omega))]
  walk_at "ev"
  obtain ⟨ρ', e⟩ := loop_ret (bi := bName 2) (body := b_value_in) (d' := .int v) (ρ' := [])
    (fun _ ρ => ∃ x, ρ = [some (.fz (.tup [.str "leaf", bd lo, bd hi, tI (a ++ k :: b), tI (c ++ v :: d)])), some (.fz (.int k)), x]) (ds := rngD 0 1 (((a ++ k :: b).length : Int)).toNat) (ρ := [some (.fz (.tup [.str "leaf", bd lo, bd hi, tI (a ++ k :: b), tI (c ++ v :: d)])), some (.fz (.int k)), none]) 0 a.length
    (by unfold rngD; simp only [List.length_map, List.length_range, List.length_append, List.length_cons]; omega) ⟨none, rfl⟩ (by
      rintro i d' ρ hn hd ⟨x, rfl⟩
      obtain ⟨hin, rfl⟩ := rngD_get hd
      have e1 : dIx (tI (a ++ k :: b)) (.int (0 + (i : Int) * 1)) = some (.int a[i]) := by
        rw [show 0 + (i : Int) * 1 = (i : Int) by omega]
        exact tI_ix (by rw [List.getElem?_append_left hn]; exact List.getElem?_eq_getElem hn)
      have e2 : decide (a[i] = k) = false := decide_eq_false (by have := hk _ (List.getElem_mem hn); omega)
      refine ⟨_, _, rfl, ?_, ⟨some (.fz (.int (0 + (i : Int) * 1))), rfl⟩⟩
      unfold b_value_in sFz
      walk_at "ev"
      rw [e1]
      walk_at "ev"
      rw [e2]
      walk_at "ev") (by
      rintro d' ρ hd ⟨x, rfl⟩
      obtain ⟨hin, rfl⟩ := rngD_get hd
      have e1 : dIx (tI (a ++ k :: b)) (.int (0 + (a.length : Int) * 1)) = some (.int k) := ix_mid (by omega)
      have e2 : dIx (tI (c ++ v :: d)) (.int (0 + (a.length : Int) * 1)) = some (.int v) := ix_mid (by omega)
      refine ⟨_, [some (.fz (.tup [.str "leaf", bd lo, bd hi, tI (a ++ k :: b), tI (c ++ v :: d)])), some (.fz (.int k)), some (.fz (.int (0 + (a.length : Int) * 1)))], rfl, ?_⟩
      unfold b_value_in sFz
      walk_at "ev"
      rw [e1]
      walk_at "ev"
      rw [e2]
      walk_at "ev")
  unfold b_value_in at e
  rw [e]
  walk_at "ev"
theorem with_value_new {lo hi : Option Int} {a b c d : List Int} {k v : Int} (O : OkL lo hi (a ++ k :: b) (c ++ v :: d)) (hac : a.length = c.length) (ha : ∀ x ∈ a, x < k) (hb : ∀ x ∈ b, k < x) :
    fn_with_value [enc (.leaf lo hi (a ++ b) (c ++ d)), .int k, .int v] = some (enc (.leaf lo hi (a ++ k :: b) (c ++ v :: d))) := by
  have few := O.few
  have len := O.len
  simp only [List.length_append, List.length_cons] at few len
  have p := place_ok (a := a) (b := b) (k := k) (by simp only [List.length_append]; omega) ha (fun x hx => by have := hb x hx; omega)
  have l := leaf_ok O
  have s1 := sl_l (a := a) (b := b) rfl
  have s2 := sl_r (a := a) (b := b) rfl
  have s3 := sl_l (a := c) (b := d) (n := a.length) (by omega)
  have s4 := sl_r (a := c) (b := d) (n := a.length) (by omega)
  have a1 := tI_cat (a := a) (b := [k]) (by simp only [List.length_cons, List.length_nil]; omega)
  have a2 := tI_cat (a := a ++ [k]) (b := b) (by simp only [List.length_append, List.length_cons, List.length_nil]; omega)
  have a3 := tI_cat (a := c) (b := [v]) (by simp only [List.length_cons, List.length_nil]; omega)
  have a4 := tI_cat (a := c ++ [v]) (b := d) (by simp only [List.length_append, List.length_cons, List.length_nil]; omega)
  rw [List.append_assoc, List.singleton_append] at a2 a4
  have t : andO (some (decide ((a.length : Int) < ((a ++ b).length : Int)))) (fT (f2 dEq (f2 dIx (fVar 5) (fVar 7)) (fVar 1))) [some (.fz (.tup [.str "leaf", bd lo, bd hi, tI (a ++ b), tI (c ++ d)])), some (.fz (.int k)), some (.fz (.int v)), some (.fz (bd lo)), some (.fz (bd hi)), some (.fz (tI (a ++ b))), some (.fz (tI (c ++ d))), some (.fz (.int a.length)), some (.fz (.int a.length))] = some false := by
    cases b with
    | nil =>
      rw [decide_eq_false (by simp)]
      rfl
    | cons x b =>
      have e1 : dIx (tI (a ++ x :: b)) (.int a.length) = some (.int x) := ix_mid rfl
      rw [decide_eq_true (by simp only [List.length_append, List.length_cons]; omega)]
      clear p l s1 s2 s3 s4 a1 a2 a3 a4 O few len
      walk_at "ev"
      rw [e1]
      walk_at "ev"
      rw [decide_eq_false (by have := hb x List.mem_cons_self; omega)]
  unfold fn_with_value g_with_value
  simp only [enc_leaf] at l ⊢
  clear ha hb few len O hac
  walk_at "ev"
  rw [p]
  walk_at "ev"
  rw [t]
  clear t p
  walk_at "ev"
  simp only [s1, s2, s3, s4, j_b2, tI1, a1, a2, a3, a4]
  walk_at "ev"
  simp only [s1, s2, s3, s4, j_b2, tI1, a1, a2, a3, a4]
  walk_at "ev"
  rw [l]
  walk_at "ev"
theorem with_value_old {lo hi : Option Int} {a b c d : List Int} {k v w : Int} (O : OkL lo hi (a ++ k :: b) (c ++ v :: d)) (hac : a.length = c.length) (ha : ∀ x ∈ a, x < k) (hb : ∀ x ∈ b, k < x) :
    fn_with_value [enc (.leaf lo hi (a ++ k :: b) (c ++ w :: d)), .int k, .int v] = some (enc (.leaf lo hi (a ++ k :: b) (c ++ v :: d))) := by
  have few := O.few
  have len := O.len
  simp only [List.length_append, List.length_cons] at few len
  have p := place_ok (a := a) (b := k :: b) (k := k) (by simp only [List.length_append, List.length_cons]; omega) ha (fun x hx => by
    rcases List.mem_cons.mp hx with rfl | hx
    · omega
    · have := hb x hx
      omega)
  have l := leaf_ok O
  have s1 := sl_l (a := a) (b := k :: b) rfl
  have s2 := sl_r1 (a := a) (b := b) (x := k) rfl
  have s3 := sl_l (a := c) (b := w :: d) (n := a.length) (by omega)
  have s4 := sl_r1 (a := c) (b := d) (x := w) (n := (a.length : Int) + 1) (by omega)
  have a1 := tI_cat (a := a) (b := [k]) (by simp only [List.length_cons, List.length_nil]; omega)
  have a2 := tI_cat (a := a ++ [k]) (b := b) (by simp only [List.length_append, List.length_cons, List.length_nil]; omega)
  have a3 := tI_cat (a := c) (b := [v]) (by simp only [List.length_cons, List.length_nil]; omega)
  have a4 := tI_cat (a := c ++ [v]) (b := d) (by simp only [List.length_append, List.length_cons, List.length_nil]; omega)
  rw [List.append_assoc, List.singleton_append] at a2 a4
  have t : decide ((a.length : Int) < ((a ++ k :: b).length : Int)) = true := decide_eq_true (by simp only [List.length_append, List.length_cons]; omega)
  have e1 : dIx (tI (a ++ k :: b)) (.int a.length) = some (.int k) := ix_mid rfl
  unfold fn_with_value g_with_value
  simp only [enc_leaf] at l ⊢
  clear ha hb few len O hac
  walk_at "ev"
  rw [p]
  walk_at "ev"
  rw [t]
  clear t p
  walk_at "ev"
  rw [e1]
  walk_at "ev"
  simp only [s1, s2, s3, s4, j_b2, tI1, a1, a2, a3, a4]
  walk_at "ev"
  simp only [s1, s2, s3, s4, j_b2, tI1, a1, a2, a3, a4]
  walk_at "ev"
  rw [l]
  walk_at "ev"
theorem without_key_ok {lo hi : Option Int} {a b c d : List Int} {k w : Int} (O : OkL lo hi (a ++ b) (c ++ d)) (hac : a.length = c.length) (ha : ∀ x ∈ a, x < k) (hb : ∀ x ∈ b, k < x) :
    fn_without_key [enc (.leaf lo hi (a ++ k :: b) (c ++ w :: d)), .int k] = some (enc (.leaf lo hi (a ++ b) (c ++ d))) := by
  have few := O.few
  have len := O.len
  simp only [List.length_append] at few len
  have p := place_ok (a := a) (b := k :: b) (k := k) (by simp only [List.length_append, List.length_cons]; omega) ha (fun x hx => by
    rcases List.mem_cons.mp hx with rfl | hx
    · omega
    · have := hb x hx
      omega)
  have l := leaf_ok O
  have s1 := sl_l (a := a) (b := k :: b) rfl
  have s2 := sl_r1 (a := a) (b := b) (x := k) rfl
  have s3 := sl_l (a := c) (b := w :: d) (n := a.length) (by omega)
  have s4 := sl_r1 (a := c) (b := d) (x := w) (n := (a.length : Int) + 1) (by omega)
  have a1 := tI_cat (a := a) (b := b) (by omega)
  have a3 := tI_cat (a := c) (b := d) (by omega)
  unfold fn_without_key g_without_key
  simp only [enc_leaf] at l ⊢
  clear ha hb few len O hac
  walk_at "ev"
  rw [p]
  clear p
  walk_at "ev"
  simp only [s1, s2, s3, s4, j_b2, a1, a3]
  walk_at "ev"
  rw [l]
  walk_at "ev"
/-! inner records -/
theorem with_child_ok {lv : Int} {lo hi : Option Int} {a b c d : List Int} {s p q : Int} (O : OkI lv lo hi (a ++ s :: b) (c ++ p :: q :: d)) (hac : a.length = c.length) :
    fn_with_child [enc (.inner lv lo hi (a ++ b) (c ++ p :: d)), .int a.length, .int s, .int q] = some (enc (.inner lv lo hi (a ++ s :: b) (c ++ p :: q :: d))) := by
  have few := O.few
  have len := O.len
  simp only [List.length_append, List.length_cons] at few len
  have l := inner_ok O
  have s1 := sl_l (a := a) (b := b) rfl
  have s2 := sl_r (a := a) (b := b) rfl
  have s3 := sl_l1 (a := c) (b := d) (x := p) (n := (a.length : Int) + 1) (by omega)
  have s4 := sl_r1 (a := c) (b := d) (x := p) (n := (a.length : Int) + 1) (by omega)
  have a1 := tI_cat (a := a) (b := [s]) (by simp only [List.length_cons, List.length_nil]; omega)
  have a2 := tI_cat (a := a ++ [s]) (b := b) (by simp only [List.length_append, List.length_cons, List.length_nil]; omega)
  have a3 := tI_cat (a := c ++ [p]) (b := [q]) (by simp only [List.length_append, List.length_cons, List.length_nil]; omega)
  have a4 := tI_cat (a := c ++ [p] ++ [q]) (b := d) (by simp only [List.length_append, List.length_cons, List.length_nil]; omega)
  have e4 : c ++ [p] ++ [q] ++ d = c ++ p :: q :: d := by simp
  rw [e4] at a4
  rw [List.append_assoc, List.singleton_append] at a2
  unfold fn_with_child g_with_child
  simp only [enc_inner] at l ⊢
  clear few len O hac
  walk_at "ev"
  simp only [s1, s2, s3, s4, j_b2, tI1, a1, a2, a3, a4]
  walk_at "ev"
  simp only [s1, s2, s3, s4, j_b2, tI1, a1, a2, a3, a4]
  walk_at "ev"
  rw [l]
  walk_at "ev"
theorem without_child_ok {lv : Int} {lo hi : Option Int} {a b c d : List Int} {s p q : Int} {n : Int} (O : OkI lv lo hi (a ++ b) (c ++ p :: d)) (hac : a.length = c.length) (hn : n = (a.length : Int) + 1) :
    fn_without_child [enc (.inner lv lo hi (a ++ s :: b) (c ++ p :: q :: d)), .int n] = some (enc (.inner lv lo hi (a ++ b) (c ++ p :: d))) := by
  have few := O.few
  have len := O.len
  simp only [List.length_append, List.length_cons] at few len
  have l := inner_ok O
  have s1 := sl_l (a := a) (b := s :: b) (n := n - 1) (by omega)
  have s2 := sl_r1 (a := a) (b := b) (x := s) (n := n) (by omega)
  have s3 := sl_l1 (a := c) (b := q :: d) (x := p) (n := n) (by omega)
  have s4 := sl_r1 (a := c ++ [p]) (b := d) (x := q) (n := n + 1) (by simp only [List.length_append, List.length_cons, List.length_nil]; omega)
  have a1 := tI_cat (a := a) (b := b) (by omega)
  have a3 := tI_cat (a := c ++ [p]) (b := d) (by simp only [List.length_append, List.length_cons, List.length_nil]; omega)
  have e4 : c ++ [p] ++ d = c ++ p :: d := by simp
  have e5 : c ++ [p] ++ q :: d = c ++ p :: q :: d := by simp
  rw [e4] at a3
  rw [e5] at s4
  unfold fn_without_child g_without_child
  simp only [enc_inner] at l ⊢
  clear few len O hac hn
  walk_at "ev"
  simp only [s1, s2, s3, s4, j_b2, tI1, a1, a3]
  walk_at "ev"
  simp only [s1, s2, s3, s4, j_b2, tI1, a1, a3]
  walk_at "ev"
  rw [l]
  walk_at "ev"
theorem with_separator_ok {lv : Int} {lo hi : Option Int} {a b ps : List Int} {s t : Int} {n : Int} (O : OkI lv lo hi (a ++ s :: b) ps) (hn : n = (a.length : Int) + 1) :
    fn_with_separator [enc (.inner lv lo hi (a ++ t :: b) ps), .int n, .int s] = some (enc (.inner lv lo hi (a ++ s :: b) ps)) := by
  have few := O.few
  simp only [List.length_append, List.length_cons] at few
  have l := inner_ok O
  have s1 := sl_l (a := a) (b := t :: b) (n := n - 1) (by omega)
  have s2 := sl_r1 (a := a) (b := b) (x := t) (n := n) (by omega)
  have a1 := tI_cat (a := a) (b := [s]) (by simp only [List.length_cons, List.length_nil]; omega)
  have a2 := tI_cat (a := a ++ [s]) (b := b) (by simp only [List.length_append, List.length_cons, List.length_nil]; omega)
  rw [List.append_assoc, List.singleton_append] at a2
  unfold fn_with_separator g_with_separator
  simp only [enc_inner] at l ⊢
  clear few O hn
  walk_at "ev"
  simp only [s1, s2, j_b2, tI1, a1, a2]
  walk_at "ev"
  rw [l]
  walk_at "ev"
theorem cut_leaf_ok {lo hi : Option Int} {a b c d : List Int} {s : Int} (O : OkL lo hi (a ++ s :: b) (c ++ d)) (O1 : OkL lo (some s) a c) (O2 : OkL (some s) hi (s :: b) d) (hh : (a ++ s :: b).length = 2 * a.length ∨ (a ++ s :: b).length + 1 = 2 * a.length) :
    fn_cut [enc (.leaf lo hi (a ++ s :: b) (c ++ d))] = some (.tup [enc (.leaf lo (some s) a c), .int s, enc (.leaf (some s) hi (s :: b) d)]) := by
  have sze := size_of_enc (r := .leaf lo hi (a ++ s :: b) (c ++ d)) O rfl
  rw [sz_leaf] at sze
  have hac := O1.len
  have few := O.few
  have hd : dDiv (.int (((a ++ s :: b).length : Int) + 1)) (.int 2) = some (.int a.length) := by
    rw [d_divP (by decide)]
    congr 2
    omega
  have l1 := leaf_ok O1
  have l2 := leaf_ok O2
  have s1 := sl_l (a := a) (b := s :: b) rfl
  have s2 := sl_r (a := a) (b := s :: b) rfl
  have s3 := sl_l (a := c) (b := d) (n := a.length) (by omega)
  have s4 := sl_r (a := c) (b := d) (n := a.length) (by omega)
  have e1 : dIx (tI (a ++ s :: b)) (.int a.length) = some (.int s) := ix_mid rfl
  unfold fn_cut g_cut
  simp only [enc_leaf, bd_some] at sze l1 l2 ⊢
  clear few O O1 O2 hh hac
  walk_at "ev"
  rw [sze]
  walk_at "ev"
  rw [hd]
  walk_at "ev"
  simp only [s1, s2, s3, s4, j_b2, e1]
  walk_at "ev"
  rw [l1]
  walk_at "ev"
  simp only [s1, s2, s3, s4, j_b2, e1]
  walk_at "ev"
  rw [l2]
  walk_at "ev"
theorem cut_inner_ok {lv : Int} {lo hi : Option Int} {a b c d : List Int} {s p : Int} (O : OkI lv lo hi (a ++ s :: b) (c ++ p :: d)) (O1 : OkI lv lo (some s) a (c ++ [p])) (O2 : OkI lv (some s) hi b d) (hh : (c ++ p :: d).length = 2 * (a.length + 1) ∨ (c ++ p :: d).length + 1 = 2 * (a.length + 1)) :
    fn_cut [enc (.inner lv lo hi (a ++ s :: b) (c ++ p :: d))] = some (.tup [enc (.inner lv lo (some s) a (c ++ [p])), .int s, enc (.inner lv (some s) hi b d)]) := by
  have sze := size_of_enc (r := .inner lv lo hi (a ++ s :: b) (c ++ p :: d)) O rfl
  rw [sz_inner] at sze
  have hac := O1.len
  have hbd := O2.len
  simp only [List.length_append, List.length_cons, List.length_nil] at hac
  have hd : dDiv (.int (((c ++ p :: d).length : Int) + 1)) (.int 2) = some (.int (a.length + 1)) := by
    rw [d_divP (by decide)]
    congr 2
    omega
  have e0 : (a.length : Int) + 1 - 1 = a.length := by omega
  have l1 := inner_ok O1
  have l2 := inner_ok O2
  have s1 := sl_l (a := a) (b := s :: b) rfl
  have s2 := sl_r1 (a := a) (b := b) (x := s) rfl
  have s3 := sl_l1 (a := c) (b := d) (x := p) (n := (a.length : Int) + 1) (by omega)
  have s4 := sl_r1 (a := c) (b := d) (x := p) (n := (a.length : Int) + 1) (by omega)
  have e1 : dIx (tI (a ++ s :: b)) (.int a.length) = some (.int s) := ix_mid rfl
  unfold fn_cut g_cut
  simp only [enc_inner, bd_some] at sze l1 l2 ⊢
  clear O O1 O2 hh hac hbd
  walk_at "ev"
  rw [sze]
  walk_at "ev"
  rw [hd]
  walk_at "ev"
  simp only [s1, s2, s3, s4, j_b2, e1, e0]
  walk_at "ev"
  simp only [s1, s2, s3, s4, j_b2, e1, e0]
  walk_at "ev"
  rw [l1]
  walk_at "ev"
  simp only [s1, s2, s3, s4, j_b2, e1, e0]
  walk_at "ev"
  rw [l2]
  walk_at "ev"
theorem joined_leaf_ok {lo hi m m' : Option Int} {a b c d : List Int} {s : D} (O : OkL lo hi (a ++ b) (c ++ d)) (O1 : OkL lo m a c) (O2 : OkL m' hi b d) :
    fn_joined [enc (.leaf lo m a c), s, enc (.leaf m' hi b d)] = some (enc (.leaf lo hi (a ++ b) (c ++ d))) := by
  have b1 := bounds_of_enc (r := .leaf lo m a c) rfl
  have b2 := bounds_of_enc (r := .leaf m' hi b d) rfl
  rw [lo_leaf, hi_leaf] at b1 b2
  have l := leaf_ok O
  have few := O.few
  have e1 := O1.len
  have e2 := O2.len
  simp only [List.length_append] at few
  have a1 := tI_cat (a := a) (b := b) (by omega)
  have a3 := tI_cat (a := c) (b := d) (by omega)
  unfold fn_joined g_joined
  simp only [enc_leaf] at l b1 b2 ⊢
  clear O O1 O2 few e1 e2
  walk_at "ev"
  rw [b1]
  walk_at "ev"
  rw [b2]
  walk_at "ev"
  rw [a1, a3]
  walk_at "ev"
  rw [l]
  walk_at "ev"
theorem joined_inner_ok {lv lv' : Int} {lo hi m m' : Option Int} {a b c d : List Int} {s : Int} (O : OkI lv lo hi (a ++ s :: b) (c ++ d)) (O1 : OkI lv lo m a c) (O2 : OkI lv' m' hi b d) :
    fn_joined [enc (.inner lv lo m a c), .int s, enc (.inner lv' m' hi b d)] = some (enc (.inner lv lo hi (a ++ s :: b) (c ++ d))) := by
  have b1 := bounds_of_enc (r := .inner lv lo m a c) rfl
  have b2 := bounds_of_enc (r := .inner lv' m' hi b d) rfl
  rw [lo_inner, hi_inner] at b1 b2
  have l := inner_ok O
  have few := O.few
  have e1 := O1.len
  have e2 := O2.len
  simp only [List.length_append, List.length_cons] at few
  have a1 := tI_cat (a := a) (b := [s]) (by simp only [List.length_cons, List.length_nil]; omega)
  have a2 := tI_cat (a := a ++ [s]) (b := b) (by simp only [List.length_append, List.length_cons, List.length_nil]; omega)
  have a3 := tI_cat (a := c) (b := d) (by omega)
  rw [List.append_assoc, List.singleton_append] at a2
  unfold fn_joined g_joined
  simp only [enc_inner] at l b1 b2 ⊢
  clear O O1 O2 few e1 e2
  walk_at "ev"
  rw [b1]
  walk_at "ev"
  rw [b2]
  walk_at "ev"
  simp only [j_b2, tI1, a1, a2, a3]
  walk_at "ev"
  simp only [j_b2, tI1, a1, a2, a3]
  walk_at "ev"
  rw [l]
  walk_at "ev"
end K32
end
section
set_option Elab.async false
set_option linter.all false
set_option maxRecDepth 100000
set_option maxHeartbeats 4000000
/-! the calls and what they do to a leaf -/
namespace K32
open PySem PySem.Spec PyProof.Rows L2
local macro_rules | `(tactic| walk_at "ev") => `(tactic| simp only [ev_f2, ev_f1, ev_fC, ev_v0, ev_vs, ev_c0, ev_c1, ev_c2, ev_cs, ev_call, ev_all0, ev_all1, ev_tup, ev_lst, ev_T, ev_andT, ev_orT, ev_notT, ev_and, ev_or, ev_not, ev_if, ev_seq, ev_nx, ev_bk, ev_no, ev_set, ev_M, ev_ret, ev_drop, ev_un, ev_ns1, ev_ns0, ev_sl, ev_o0, ev_o1, ev_neg, ev_ch, ev_fz0, ev_fz1, ev_fz2, ev_fz3, ev_fz4, ev_fz5, ev_st0, ev_sts, fn_0, fn_1, fn_2, fn_3, fn_4, fn_5,
  j_b1, j_b2, j_bL, j_cL, j_mD, j_bT, j_andT, j_andF, j_orF, j_orT, j_not, j_bl, j_aDT, j_aDF, j_oDF, j_oDT, j_ifT, j_ifF, j_seqN, j_seqR, j_seqB, j_set, j_pM, j_ret, j_drop, j_un, j_sl, j_some, j_chT, j_chF, j_chP, j_endR, j_endN, j_nones0, j_nonesS, ix0, ix1, ix2, ix3, ix4, ix5,
  d_lt, d_le, d_gt, d_ge, d_addI, d_sub, d_lenL, d_eqI, d_eqS, d_eqNI, d_eqIN, d_eqNN, d_neI, d_neS, d_neNI, d_neIN, d_neNN, d_isNN, d_isNI, d_isNB, d_isNT, d_isND, d_notNN, d_notNI, d_notNT, d_notND, d_slT, d_neg, d_tupT, d_tupL, d_listL, d_dict, d_intI, d_intB,
  List.length_cons, List.length_nil, Nat.reduceAdd, Nat.reduceSub, if_true, if_false, reduceIte, Bool.not_true, Bool.not_false, decide_true, decide_false, Bool.false_eq_true, tI_len, ev_for, ev_r1, ev_r2, ev_r3, ev_iT, ev_iL, ev_lc, ev_yes, j_for, j_iT, j_iTI, j_iL, isi_tup, isi_tI, isi_int, isi_ib, isi_non, dtup_tI, cut51, cut61, cut62, cut605, cut513, cut624, ixm5, ixm6, d_len2, d_len3, d_len4, d_len5, d_len6, s_ll, s_il, s_ii, s_fl, s_fi, s_li, s_ff, s_lf, s_if, eq_self, Int.reduceLT, Int.reduceLE, Int.reduceEq, Int.reduceNeg])
local macro_rules | `(tactic| walk_at "evh") => `(tactic| simp only [*, ev_f2, ev_f1, ev_fC, ev_v0, ev_vs, ev_c0, ev_c1, ev_c2, ev_cs, ev_call, ev_all0, ev_all1, ev_tup, ev_lst, ev_T, ev_andT, ev_orT, ev_notT, ev_and, ev_or, ev_not, ev_if, ev_seq, ev_nx, ev_bk, ev_no, ev_set, ev_M, ev_ret, ev_drop, ev_un, ev_ns1, ev_ns0, ev_sl, ev_o0, ev_o1, ev_neg, ev_ch, ev_fz0, ev_fz1, ev_fz2, ev_fz3, ev_fz4, ev_fz5, ev_st0, ev_sts, fn_0, fn_1, fn_2, fn_3, fn_4, fn_5,
  j_b1, j_b2, j_bL, j_cL, j_mD, j_bT, j_andT, j_andF, j_orF, j_orT, j_not, j_bl, j_aDT, j_aDF, j_oDF, j_oDT, j_ifT, j_ifF, j_seqN, j_seqR, j_seqB, j_set, j_pM, j_ret, j_drop, j_un, j_sl, j_some, j_chT, j_chF, j_chP, j_endR, j_endN, j_nones0, j_nonesS, ix0, ix1, ix2, ix3, ix4, ix5,
  d_lt, d_le, d_gt, d_ge, d_addI, d_sub, d_lenL, d_eqI, d_eqS, d_eqNI, d_eqIN, d_eqNN, d_neI, d_neS, d_neNI, d_neIN, d_neNN, d_isNN, d_isNI, d_isNB, d_isNT, d_isND, d_notNN, d_notNI, d_notNT, d_notND, d_slT, d_neg, d_tupT, d_tupL, d_listL, d_dict, d_intI, d_intB,
  List.length_cons, List.length_nil, Nat.reduceAdd, Nat.reduceSub, if_true, if_false, reduceIte, Bool.not_true, Bool.not_false, decide_true, decide_false, Bool.false_eq_true, tI_len, ev_for, ev_r1, ev_r2, ev_r3, ev_iT, ev_iL, ev_lc, ev_yes, j_for, j_iT, j_iTI, j_iL, isi_tup, isi_tI, isi_int, isi_ib, isi_non, dtup_tI, cut51, cut61, cut62, cut605, cut513, cut624, ixm5, ixm6, d_len2, d_len3, d_len4, d_len5, d_len6, s_ll, s_il, s_ii, s_fl, s_fi, s_li, s_ff, s_lf, s_if, eq_self, Int.reduceLT, Int.reduceLE, Int.reduceEq, Int.reduceNeg])

inductive Cl where
  | put (k v : Int) | add (k v : Int) | chg (k o n : Int) | take (k : Int) | look (k : Int)
def encC : Cl → D
  | .put k v => .tup [.str "put", .int k, .int v]
  | .add k v => .tup [.str "add", .int k, .int v]
  | .chg k o n => .tup [.str "change", .int k, .int o, .int n]
  | .take k => .tup [.str "take", .int k]
  | .look k => .tup [.str "look", .int k]
def keyC : Cl → Int
  | .put k _ => k
  | .add k _ => k
  | .chg k _ _ => k
  | .take k => k
  | .look k => k
def eff : Cl → Option Int → Option Int
  | .put _ v, _ => some v
  | .add _ v, none => some v
  | .add _ _, some w => some w
  | .chg _ o n, some w => if w = o then some n else some w
  | .chg _ _ _, none => none
  | .take _, _ => none
  | .look _, x => x
theorem encC_put {k v : Int} : encC (.put k v) = .tup [.str "put", .int k, .int v] := rfl
theorem encC_add {k v : Int} : encC (.add k v) = .tup [.str "add", .int k, .int v] := rfl
theorem encC_chg {k o n : Int} : encC (.chg k o n) = .tup [.str "change", .int k, .int o, .int n] := rfl
theorem encC_take {k : Int} : encC (.take k) = .tup [.str "take", .int k] := rfl
theorem encC_look {k : Int} : encC (.look k) = .tup [.str "look", .int k] := rfl
theorem t_pp : decide (("put" : Str) = "put") = true := by decide +kernel
theorem t_ap : decide (("add" : Str) = "put") = false := by decide +kernel
theorem t_cp : decide (("change" : Str) = "put") = false := by decide +kernel
theorem t_tp : decide (("take" : Str) = "put") = false := by decide +kernel
theorem t_lp : decide (("look" : Str) = "put") = false := by decide +kernel
theorem t_pa : decide (("put" : Str) = "add") = false := by decide +kernel
theorem t_aa : decide (("add" : Str) = "add") = true := by decide +kernel
theorem t_ca : decide (("change" : Str) = "add") = false := by decide +kernel
theorem t_ta : decide (("take" : Str) = "add") = false := by decide +kernel
theorem t_la : decide (("look" : Str) = "add") = false := by decide +kernel
theorem t_pc : decide (("put" : Str) = "change") = false := by decide +kernel
theorem t_cc : decide (("change" : Str) = "change") = true := by decide +kernel
theorem t_tc : decide (("take" : Str) = "change") = false := by decide +kernel
theorem t_lc : decide (("look" : Str) = "change") = false := by decide +kernel
theorem t_pt : decide (("put" : Str) = "take") = false := by decide +kernel
theorem t_tt : decide (("take" : Str) = "take") = true := by decide +kernel
theorem t_lt : decide (("look" : Str) = "take") = false := by decide +kernel
/-- what a changed leaf holds -/
def its : Rc → List (Int × Int)
  | .leaf _ _ ks vs => ks.zip vs
  | _ => []
structure LeafTo (c : Cl) (r r' : Rc) (old : Option Int) : Prop where
  oth : ∀ it : Int × Int, it.1 ≠ keyC c → (its r').count it = (its r).count it
  own : ∀ v, (its r').count (keyC c, v) = if eff c old = some v then 1 else 0
theorem zip_split {a b c d : List Int} (h : a.length = c.length) : (a ++ b).zip (c ++ d) = a.zip c ++ b.zip d := List.zip_append h
theorem zip_count_no {a c : List Int} {k v : Int} (h : ∀ x ∈ a, x ≠ k) : (a.zip c).count (k, v) = 0 := List.count_eq_zero.mpr fun q => h _ (List.of_mem_zip q).1 rfl
theorem cnt_new {a b c d : List Int} {k v : Int} (h : a.length = c.length) (ha : ∀ x ∈ a, x < k) (hb : ∀ x ∈ b, k < x) :
    (∀ it : Int × Int, it.1 ≠ k → ((a ++ k :: b).zip (c ++ v :: d)).count it = ((a ++ b).zip (c ++ d)).count it) ∧ (∀ w, ((a ++ k :: b).zip (c ++ v :: d)).count (k, w) = if some v = some w then 1 else 0) ∧ (∀ w, ((a ++ b).zip (c ++ d)).count (k, w) = 0) := by
  rw [zip_split h, zip_split h, List.zip_cons_cons]
  refine ⟨fun it hi => ?_, fun w => ?_, fun w => ?_⟩
  · rw [List.count_append, List.count_append, List.count_cons_of_ne (fun e => hi (by rw [← e]))]
  · rw [List.count_append, List.count_cons, zip_count_no (fun x hx => by have := ha x hx; omega), zip_count_no (fun x hx => by have := hb x hx; omega)]
    simp
  · rw [List.count_append, zip_count_no (fun x hx => by have := ha x hx; omega), zip_count_no (fun x hx => by have := hb x hx; omega)]
theorem OkL.mono {lo hi : Option Int} {ks ks' vs' : List Int} {vs : List Int} (O : OkL lo hi ks vs) (len : ks'.length = vs'.length) (asc : ks'.Pairwise (· < ·)) (cov : ∀ k ∈ ks', k ∈ ks ∨ (geLo lo k ∧ ltHi hi k)) (few : ks'.length ≤ 1000) : OkL lo hi ks' vs' :=
  ⟨len, O.lh, asc, fun k hk => (cov k hk).elim (O.cov k) id, few⟩
theorem asc_ins {a b : List Int} {k : Int} (h : (a ++ b).Pairwise (· < ·)) (ha : ∀ x ∈ a, x < k) (hb : ∀ x ∈ b, k < x) : (a ++ k :: b).Pairwise (· < ·) := by
  rw [List.pairwise_append] at h ⊢
  refine ⟨h.1, List.pairwise_cons.mpr ⟨fun x hx => hb x hx, h.2.1⟩, fun x hx y hy => ?_⟩
  rcases List.mem_cons.mp hy with rfl | hy
  · exact ha x hx
  · exact h.2.2 x hx y hy
theorem asc_del {a b : List Int} {k : Int} (h : (a ++ k :: b).Pairwise (· < ·)) : (a ++ b).Pairwise (· < ·) := by
  rw [List.pairwise_append] at h ⊢
  exact ⟨h.1, (List.pairwise_cons.mp h.2.1).2, fun x hx y hy => h.2.2 x hx y (List.mem_cons_of_mem _ hy)⟩
/-- the old value: what the leaf holds under the key -/
theorem leaf_change_ok (c : Cl) {lo hi : Option Int} {ks vs : List Int} (O : OkL lo hi ks vs) (few : ks.length ≤ 4) (cv : geLo lo (keyC c) ∧ ltHi hi (keyC c)) :
    ∃ old : Option Int, (∀ v, (ks.zip vs).count (keyC c, v) = if old = some v then 1 else 0) ∧
    ((∃ a, fn_leaf_change [encC c, enc (.leaf lo hi ks vs)] = some (.tup [a, .non]) ∧ eff c old = old) ∨
     (∃ a ks' vs', fn_leaf_change [encC c, enc (.leaf lo hi ks vs)] = some (.tup [a, enc (.leaf lo hi ks' vs')]) ∧ OkL lo hi ks' vs' ∧ ks'.length ≤ ks.length + 1 ∧ ks.length ≤ ks'.length + 1 ∧ LeafTo c (.leaf lo hi ks vs) (.leaf lo hi ks' vs') old)) := by
  rcases split_key O.asc O.len (keyC c) with ⟨a, b, e, d, rfl, rfl, e1, e2, ha, hb⟩ | ⟨a, b, e, w, d, rfl, rfl, e1, e2, ha, hb⟩
  · refine ⟨none, fun v => by rw [(cnt_new (v := v) e1 ha hb).2.2 v]; simp, ?_⟩
    simp only [List.length_append] at few
    have On : ∀ v, OkL lo hi (a ++ keyC c :: b) (e ++ v :: d) := fun v => O.mono (by simp only [List.length_append, List.length_cons]; omega) (asc_ins O.asc ha hb) (fun k hk => by
      rw [List.mem_append, List.mem_cons] at hk
      rcases hk with hk | rfl | hk
      · exact .inl (List.mem_append_left _ hk)
      · exact .inr cv
      · exact .inl (List.mem_append_right _ hk)) (by simp only [List.length_append, List.length_cons]; omega)
    have no : fn_value_in [enc (.leaf lo hi (a ++ b) (e ++ d)), .int (keyC c)] = some .non := value_in_no O.few fun x hx => by
      rcases List.mem_append.mp hx with hx | hx
      · have := ha x hx
        omega
      · have := hb x hx
        omega
    have wn : ∀ v, fn_with_value [enc (.leaf lo hi (a ++ b) (e ++ d)), .int (keyC c), .int v] = some (enc (.leaf lo hi (a ++ keyC c :: b) (e ++ v :: d))) := fun v => with_value_new (On v) e1 ha hb
    have lt : ∀ v, eff c none = some v → LeafTo c (.leaf lo hi (a ++ b) (e ++ d)) (.leaf lo hi (a ++ keyC c :: b) (e ++ v :: d)) none := fun v h => ⟨(cnt_new e1 ha hb).1, fun w => by rw [h]; exact (cnt_new e1 ha hb).2.1 w⟩
    have ln : ∀ x : Int, (a ++ x :: b).length ≤ (a ++ b).length + 1 ∧ (a ++ b).length ≤ (a ++ x :: b).length + 1 := fun x => by simp only [List.length_append, List.length_cons]; omega
    unfold fn_leaf_change g_leaf_change
    cases c with
    | put k v =>
      have wn := wn v
      simp only [keyC] at no wn
      refine .inr ⟨.non, a ++ k :: b, e ++ v :: d, ?_, On v, (ln k).1, (ln k).2, lt v rfl⟩
      simp only [encC_put, keyC]
      clear lt ln On O few ha hb cv e1 e2
      walk_at "ev"
      rw [no]
      walk_at "ev"
      try simp only [t_pp]
      try walk_at "ev"
      rw [wn]
      walk_at "ev"
    | add k v =>
      have wn := wn v
      simp only [keyC] at no wn
      refine .inr ⟨.bl true, a ++ k :: b, e ++ v :: d, ?_, On v, (ln k).1, (ln k).2, lt v rfl⟩
      simp only [encC_add, keyC]
      clear lt ln On O few ha hb cv e1 e2
      walk_at "ev"
      rw [no]
      walk_at "ev"
      try simp only [t_ap, t_aa]
      try walk_at "ev"
      try simp only [t_ap, t_aa]
      try walk_at "ev"
      rw [wn]
      walk_at "ev"
    | chg k o n =>
      simp only [keyC] at no
      refine .inl ⟨.bl false, ?_, rfl⟩
      simp only [encC_chg, keyC]
      clear lt ln On O few ha hb cv e1 e2 wn
      walk_at "ev"
      rw [no]
      walk_at "ev"
      try simp only [t_cp, t_ca, t_cc]
      try walk_at "ev"
      try simp only [t_cp, t_ca, t_cc]
      try walk_at "ev"
      try simp only [t_cp, t_ca, t_cc]
      try walk_at "ev"
    | take k =>
      simp only [keyC] at no
      refine .inl ⟨.non, ?_, rfl⟩
      simp only [encC_take, keyC]
      clear lt ln On O few ha hb cv e1 e2 wn
      walk_at "ev"
      rw [no]
      walk_at "ev"
      try simp only [t_tp, t_ta, t_tc, t_tt]
      try walk_at "ev"
      try simp only [t_tp, t_ta, t_tc, t_tt]
      try walk_at "ev"
      try simp only [t_tp, t_ta, t_tc, t_tt]
      try walk_at "ev"
      try simp only [t_tp, t_ta, t_tc, t_tt]
      try walk_at "ev"
    | look k =>
      simp only [keyC] at no
      refine .inl ⟨.non, ?_, rfl⟩
      simp only [encC_look, keyC]
      clear lt ln On O few ha hb cv e1 e2 wn
      walk_at "ev"
      rw [no]
      walk_at "ev"
      try simp only [t_lp, t_la, t_lc, t_lt]
      try walk_at "ev"
      try simp only [t_lp, t_la, t_lc, t_lt]
      try walk_at "ev"
      try simp only [t_lp, t_la, t_lc, t_lt]
      try walk_at "ev"
      try simp only [t_lp, t_la, t_lc, t_lt]
      try walk_at "ev"
  · obtain ⟨c1, c2, c3⟩ := cnt_new (v := w) (d := d) e1 ha hb
    refine ⟨some w, c2, ?_⟩
    simp only [List.length_append, List.length_cons] at few
    have On : ∀ v, OkL lo hi (a ++ keyC c :: b) (e ++ v :: d) := fun v => O.mono (by simp only [List.length_append, List.length_cons]; omega) O.asc (fun k hk => .inl hk) (by simp only [List.length_append, List.length_cons]; omega)
    have Od : OkL lo hi (a ++ b) (e ++ d) := O.mono (by simp only [List.length_append, List.length_cons]; omega) (asc_del O.asc) (fun k hk => by
      rw [List.mem_append] at hk
      exact .inl (hk.elim (List.mem_append_left _) fun hk => List.mem_append_right _ (List.mem_cons_of_mem _ hk))) (by simp only [List.length_append]; omega)
    have ye : fn_value_in [enc (.leaf lo hi (a ++ keyC c :: b) (e ++ w :: d)), .int (keyC c)] = some (.int w) := value_in_yes O.few e1 ha
    have wo : ∀ v, fn_with_value [enc (.leaf lo hi (a ++ keyC c :: b) (e ++ w :: d)), .int (keyC c), .int v] = some (enc (.leaf lo hi (a ++ keyC c :: b) (e ++ v :: d))) := fun v => with_value_old (On v) e1 ha hb
    have wk : fn_without_key [enc (.leaf lo hi (a ++ keyC c :: b) (e ++ w :: d)), .int (keyC c)] = some (enc (.leaf lo hi (a ++ b) (e ++ d))) := without_key_ok Od e1 ha hb
    have lt : ∀ v, eff c (some w) = some v → LeafTo c (.leaf lo hi (a ++ keyC c :: b) (e ++ w :: d)) (.leaf lo hi (a ++ keyC c :: b) (e ++ v :: d)) (some w) := fun v h =>
      ⟨fun it hi => ((cnt_new e1 ha hb).1 it hi).trans (c1 it hi).symm, fun u => by rw [h]; exact (cnt_new e1 ha hb).2.1 u⟩
    have ld : eff c (some w) = none → LeafTo c (.leaf lo hi (a ++ keyC c :: b) (e ++ w :: d)) (.leaf lo hi (a ++ b) (e ++ d)) (some w) := fun h =>
      ⟨fun it hi => (c1 it hi).symm, fun u => by rw [h]; exact (c3 u).trans (by simp)⟩
    have ln : ∀ x y : Int, (a ++ x :: b).length ≤ (a ++ y :: b).length + 1 ∧ (a ++ y :: b).length ≤ (a ++ x :: b).length + 1 := fun x y => by simp only [List.length_append, List.length_cons]; omega
    have lm : ∀ x : Int, (a ++ b).length ≤ (a ++ x :: b).length + 1 ∧ (a ++ x :: b).length ≤ (a ++ b).length + 1 := fun x => by simp only [List.length_append, List.length_cons]; omega
    unfold fn_leaf_change g_leaf_change
    cases c with
    | put k v =>
      have wn := wo v
      simp only [keyC] at ye wn
      by_cases q : w = v
      · subst q
        refine .inl ⟨.int w, ?_, rfl⟩
        simp only [encC_put, keyC]
        clear lt ld ln lm On O Od few ha hb cv e1 e2 wo wn wk c1 c2 c3
        walk_at "ev"
        rw [ye]
        walk_at "ev"
        try simp only [t_pp, t_pa, t_pc, t_pt]
        try walk_at "ev"
        try simp only [t_pp, t_pa, t_pc, t_pt]
        try walk_at "ev"
        try simp only [t_pp, t_pa, t_pc, t_pt]
        try walk_at "ev"
        try simp only [t_pp, t_pa, t_pc, t_pt]
        try walk_at "ev"
      · refine .inr ⟨.int w, a ++ k :: b, e ++ v :: d, ?_, On v, (ln k k).1, (ln k k).2, lt v rfl⟩
        simp only [encC_put, keyC]
        clear lt ld ln lm On O Od few ha hb cv e1 e2 wo wk c1 c2 c3
        walk_at "ev"
        rw [ye]
        walk_at "ev"
        try simp only [t_pp, decide_eq_false q]
        try walk_at "ev"
        try simp only [t_pp, decide_eq_false q]
        try walk_at "ev"
        rw [wn]
        walk_at "ev"
    | add k v =>
      simp only [keyC] at ye
      refine .inl ⟨.bl false, ?_, rfl⟩
      simp only [encC_add, keyC]
      clear lt ld ln lm On O Od few ha hb cv e1 e2 wo wk c1 c2 c3
      walk_at "ev"
      rw [ye]
      walk_at "ev"
      try simp only [t_ap, t_aa]
      try walk_at "ev"
      try simp only [t_ap, t_aa]
      try walk_at "ev"
    | chg k o n =>
      have wn := wo n
      simp only [keyC] at ye wn
      by_cases q : w = o
      · subst q
        by_cases q2 : n = w
        · subst q2
          refine .inl ⟨.bl true, ?_, by simp [eff]⟩
          simp only [encC_chg, keyC]
          clear lt ld ln lm On O Od few ha hb cv e1 e2 wo wn wk c1 c2 c3
          walk_at "ev"
          rw [ye]
          walk_at "ev"
          try simp only [t_cp, t_ca, t_cc]
          try walk_at "ev"
          try simp only [t_cp, t_ca, t_cc]
          try walk_at "ev"
          try simp only [t_cp, t_ca, t_cc]
          try walk_at "ev"
        · refine .inr ⟨.bl true, a ++ k :: b, e ++ n :: d, ?_, On n, (ln k k).1, (ln k k).2, lt n (by simp [eff])⟩
          simp only [encC_chg, keyC]
          clear lt ld ln lm On O Od few ha hb cv e1 e2 wo wk c1 c2 c3
          walk_at "ev"
          rw [ye]
          walk_at "ev"
          try simp only [t_cp, t_ca, t_cc, decide_eq_false q2]
          try walk_at "ev"
          try simp only [t_cp, t_ca, t_cc, decide_eq_false q2]
          try walk_at "ev"
          try simp only [t_cp, t_ca, t_cc, decide_eq_false q2]
          try walk_at "ev"
          try simp only [t_cp, t_ca, t_cc, decide_eq_false q2]
          try walk_at "ev"
          rw [wn]
          walk_at "ev"
      · refine .inl ⟨.bl false, ?_, by simp [eff, q]⟩
        simp only [encC_chg, keyC]
        clear lt ld ln lm On O Od few ha hb cv e1 e2 wo wn wk c1 c2 c3
        walk_at "ev"
        rw [ye]
        walk_at "ev"
        try simp only [t_cp, t_ca, t_cc, decide_eq_false q]
        try walk_at "ev"
        try simp only [t_cp, t_ca, t_cc, decide_eq_false q]
        try walk_at "ev"
        try simp only [t_cp, t_ca, t_cc, decide_eq_false q]
        try walk_at "ev"
    | take k =>
      simp only [keyC] at ye wk
      refine .inr ⟨.int w, a ++ b, e ++ d, ?_, Od, (lm k).1, (lm k).2, ld rfl⟩
      simp only [encC_take, keyC]
      clear lt ld ln lm On O Od few ha hb cv e1 e2 wo c1 c2 c3
      walk_at "ev"
      rw [ye]
      walk_at "ev"
      try simp only [t_tp, t_ta, t_tc, t_tt]
      try walk_at "ev"
      try simp only [t_tp, t_ta, t_tc, t_tt]
      try walk_at "ev"
      try simp only [t_tp, t_ta, t_tc, t_tt]
      try walk_at "ev"
      try simp only [t_tp, t_ta, t_tc, t_tt]
      try walk_at "ev"
      rw [wk]
      walk_at "ev"
    | look k =>
      simp only [keyC] at ye
      refine .inl ⟨.int w, ?_, rfl⟩
      simp only [encC_look, keyC]
      clear lt ld ln lm On O Od few ha hb cv e1 e2 wo wk c1 c2 c3
      walk_at "ev"
      rw [ye]
      walk_at "ev"
      try simp only [t_lp, t_la, t_lc, t_lt]
      try walk_at "ev"
      try simp only [t_lp, t_la, t_lc, t_lt]
      try walk_at "ev"
      try simp only [t_lp, t_la, t_lc, t_lt]
      try walk_at "ev"
      try simp only [t_lp, t_la, t_lc, t_lt]
      try walk_at "ev"
end K32
end
section
set_option Elab.async false
set_option linter.all false
set_option maxRecDepth 100000
set_option maxHeartbeats 4000000
/-! children's slots; cutting, joining, the parent's changes -/
namespace K32
open PySem PySem.Spec PyProof.Rows L2
local macro_rules | `(tactic| walk_at "ev") => `(tactic| simp only [ev_f2, ev_f1, ev_fC, ev_v0, ev_vs, ev_c0, ev_c1, ev_c2, ev_cs, ev_call, ev_all0, ev_all1, ev_tup, ev_lst, ev_T, ev_andT, ev_orT, ev_notT, ev_and, ev_or, ev_not, ev_if, ev_seq, ev_nx, ev_bk, ev_no, ev_set, ev_M, ev_ret, ev_drop, ev_un, ev_ns1, ev_ns0, ev_sl, ev_o0, ev_o1, ev_neg, ev_ch, ev_fz0, ev_fz1, ev_fz2, ev_fz3, ev_fz4, ev_fz5, ev_st0, ev_sts, fn_0, fn_1, fn_2, fn_3, fn_4, fn_5,
  j_b1, j_b2, j_bL, j_cL, j_mD, j_bT, j_andT, j_andF, j_orF, j_orT, j_not, j_bl, j_aDT, j_aDF, j_oDF, j_oDT, j_ifT, j_ifF, j_seqN, j_seqR, j_seqB, j_set, j_pM, j_ret, j_drop, j_un, j_sl, j_some, j_chT, j_chF, j_chP, j_endR, j_endN, j_nones0, j_nonesS, ix0, ix1, ix2, ix3, ix4, ix5,
  d_lt, d_le, d_gt, d_ge, d_addI, d_sub, d_lenL, d_eqI, d_eqS, d_eqNI, d_eqIN, d_eqNN, d_neI, d_neS, d_neNI, d_neIN, d_neNN, d_isNN, d_isNI, d_isNB, d_isNT, d_isND, d_notNN, d_notNI, d_notNT, d_notND, d_slT, d_neg, d_tupT, d_tupL, d_listL, d_dict, d_intI, d_intB,
  List.length_cons, List.length_nil, Nat.reduceAdd, Nat.reduceSub, if_true, if_false, reduceIte, Bool.not_true, Bool.not_false, decide_true, decide_false, Bool.false_eq_true, tI_len, ev_for, ev_r1, ev_r2, ev_r3, ev_iT, ev_iL, ev_lc, ev_yes, j_for, j_iT, j_iTI, j_iL, isi_tup, isi_tI, isi_int, isi_ib, isi_non, dtup_tI, cut51, cut61, cut62, cut605, cut513, cut624, ixm5, ixm6, d_len2, d_len3, d_len4, d_len5, d_len6, s_ll, s_il, s_ii, s_fl, s_fi, s_li, s_ff, s_lf, s_if, eq_self, Int.reduceLT, Int.reduceLE, Int.reduceEq, Int.reduceNeg])
local macro_rules | `(tactic| walk_at "evh") => `(tactic| simp only [*, ev_f2, ev_f1, ev_fC, ev_v0, ev_vs, ev_c0, ev_c1, ev_c2, ev_cs, ev_call, ev_all0, ev_all1, ev_tup, ev_lst, ev_T, ev_andT, ev_orT, ev_notT, ev_and, ev_or, ev_not, ev_if, ev_seq, ev_nx, ev_bk, ev_no, ev_set, ev_M, ev_ret, ev_drop, ev_un, ev_ns1, ev_ns0, ev_sl, ev_o0, ev_o1, ev_neg, ev_ch, ev_fz0, ev_fz1, ev_fz2, ev_fz3, ev_fz4, ev_fz5, ev_st0, ev_sts, fn_0, fn_1, fn_2, fn_3, fn_4, fn_5,
  j_b1, j_b2, j_bL, j_cL, j_mD, j_bT, j_andT, j_andF, j_orF, j_orT, j_not, j_bl, j_aDT, j_aDF, j_oDF, j_oDT, j_ifT, j_ifF, j_seqN, j_seqR, j_seqB, j_set, j_pM, j_ret, j_drop, j_un, j_sl, j_some, j_chT, j_chF, j_chP, j_endR, j_endN, j_nones0, j_nonesS, ix0, ix1, ix2, ix3, ix4, ix5,
  d_lt, d_le, d_gt, d_ge, d_addI, d_sub, d_lenL, d_eqI, d_eqS, d_eqNI, d_eqIN, d_eqNN, d_neI, d_neS, d_neNI, d_neIN, d_neNN, d_isNN, d_isNI, d_isNB, d_isNT, d_isND, d_notNN, d_notNI, d_notNT, d_notND, d_slT, d_neg, d_tupT, d_tupL, d_listL, d_dict, d_intI, d_intB,
  List.length_cons, List.length_nil, Nat.reduceAdd, Nat.reduceSub, if_true, if_false, reduceIte, Bool.not_true, Bool.not_false, decide_true, decide_false, Bool.false_eq_true, tI_len, ev_for, ev_r1, ev_r2, ev_r3, ev_iT, ev_iL, ev_lc, ev_yes, j_for, j_iT, j_iTI, j_iL, isi_tup, isi_tI, isi_int, isi_ib, isi_non, dtup_tI, cut51, cut61, cut62, cut605, cut513, cut624, ixm5, ixm6, d_len2, d_len3, d_len4, d_len5, d_len6, s_ll, s_il, s_ii, s_fl, s_fi, s_li, s_ff, s_lf, s_if, eq_self, Int.reduceLT, Int.reduceLE, Int.reduceEq, Int.reduceNeg])

abbrev Slot := Int × Option Int × Option Int × Int
def kidsF (lv : Int) (lo hi : Option Int) : List Int → List Int → List Slot
  | [], p :: _ => [(p, lo, hi, lv)]
  | k :: ks, p :: ps => (p, lo, some k, lv) :: kidsF lv (some k) hi ks ps
  | _, [] => []
def kids : Rc → List Slot
  | .inner lv lo hi ks ps => kidsF (lv - 1) lo hi ks ps
  | _ => []
def off (p : Int) (r : Rc) : List Slot := if p = 0 ∨ isF r = true then [] else [(p, lo_ r, hi_ r, lvl r)]
def endL (lo : Option Int) : List Int → Option Int
  | [] => lo
  | x :: a => endL (some x) a
def headR (hi : Option Int) : List Int → Option Int
  | [] => hi
  | x :: _ => some x
def kidsL (lv : Int) (lo : Option Int) : List Int → List Int → List Slot
  | x :: a, p :: c => (p, lo, some x, lv) :: kidsL lv (some x) a c
  | _, _ => []
def kidsR (lv : Int) (hi : Option Int) : List Int → List Int → List Slot
  | y :: b, q :: d => (q, some y, headR hi b, lv) :: kidsR lv hi b d
  | _, _ => []
theorem kidsF_head {lv : Int} {lo hi : Option Int} : ∀ {b d : List Int} {p : Int}, b.length = d.length → kidsF lv lo hi b (p :: d) = (p, lo, headR hi b, lv) :: kidsR lv hi b d
  | [], [], p, _ => rfl
  | y :: b, q :: d, p, h => by
    show (p, lo, some y, lv) :: kidsF lv (some y) hi b (q :: d) = _
    rw [kidsF_head (by simpa using h)]
    rfl
theorem kids1 {lv : Int} {hi : Option Int} : ∀ {lo : Option Int} {a b c d : List Int} {p : Int}, a.length = c.length → b.length = d.length → kidsF lv lo hi (a ++ b) (c ++ p :: d) = kidsL lv lo a c ++ (p, endL lo a, headR hi b, lv) :: kidsR lv hi b d
  | lo, [], b, [], d, p, _, h => kidsF_head h
  | lo, x :: a, b, q :: c, d, p, h1, h => by
    show (q, lo, some x, lv) :: kidsF lv (some x) hi (a ++ b) (c ++ p :: d) = _
    rw [kids1 (by simpa using h1) h]
    rfl
theorem kids2 {lv : Int} {lo hi : Option Int} {a b c d : List Int} {s p q : Int} (h1 : a.length = c.length) (h : b.length = d.length) : kidsF lv lo hi (a ++ s :: b) (c ++ p :: q :: d) = kidsL lv lo a c ++ (p, endL lo a, some s, lv) :: (q, some s, headR hi b, lv) :: kidsR lv hi b d := kids1 h1 (by simp [h])
theorem kids_cut {lv : Int} {hi : Option Int} {s : Int} : ∀ {lo : Option Int} {a b c d : List Int}, c.length = a.length + 1 → kidsF lv lo hi (a ++ s :: b) (c ++ d) = kidsF lv lo (some s) a c ++ kidsF lv (some s) hi b d
  | lo, [], b, [p], d, _ => rfl
  | lo, x :: a, b, q :: c, d, h1 => by
    show (q, lo, some x, lv) :: kidsF lv (some x) hi (a ++ s :: b) (c ++ d) = (q, lo, some x, lv) :: (kidsF lv (some x) (some s) a c ++ _)
    rw [kids_cut (by simpa using h1)]
theorem cbLo_end {hi : Option Int} : ∀ {lo : Option Int} {a b : List Int}, cbLo lo (a ++ b) a.length = endL lo a
  | lo, [], b => rfl
  | lo, x :: a, b => by
    have := cbLo_end (hi := hi) (lo := some x) (a := a) (b := b)
    show _ = endL (some x) a
    rw [← this]
    unfold cbLo
    cases a with
    | nil => rfl
    | cons y a => simp
theorem cbHi_head {hi : Option Int} {a b : List Int} : cbHi hi (a ++ b) a.length = headR hi b := by
  unfold cbHi
  cases b with
  | nil => simp [headR]
  | cons y b => simp [headR]
theorem endL_ge {s : Int} : ∀ {lo : Option Int} {a : List Int}, (∀ x ∈ a, x < s) → gtLo lo s → gtLo (endL lo a) s
  | lo, [], _, h => h
  | lo, x :: a, h, _ => endL_ge (lo := some x) (a := a) (fun y hy => h y (List.mem_cons_of_mem _ hy)) fun l e => by cases e; exact h x List.mem_cons_self
theorem endL_le {s : Int} : ∀ {lo : Option Int} {a : List Int}, a.Pairwise (· < ·) → (∀ x ∈ a, gtLo lo x) → gtLo (endL lo a) s → (∀ x ∈ a, x < s) ∧ gtLo lo s
  | lo, [], _, _, h => ⟨by simp, h⟩
  | lo, x :: a, ha, h0, h => by
    obtain ⟨p1, p2⟩ := List.pairwise_cons.mp ha
    obtain ⟨h1, h2⟩ := endL_le (lo := some x) (a := a) p2 (fun y hy l e => by cases e; exact p1 y hy) h
    have h3 : x < s := h2 x rfl
    refine ⟨fun y hy => ?_, fun l e => ?_⟩
    · rcases List.mem_cons.mp hy with rfl | hy
      · exact h3
      · exact h1 y hy
    · have := h0 x List.mem_cons_self l e
      omega
theorem headR_ge {s : Int} {hi : Option Int} : ∀ {b : List Int}, b.Pairwise (· < ·) → (∀ x ∈ b, ltHi hi x) → ltHi (headR hi b) s → (∀ x ∈ b, s < x) ∧ ltHi hi s
  | [], _, _, h => ⟨by simp, h⟩
  | y :: b, hb, h0, h => by
    have h3 : s < y := h y rfl
    refine ⟨fun x hx => ?_, fun l e => ?_⟩
    · rcases List.mem_cons.mp hx with rfl | hx
      · exact h3
      · have := (List.pairwise_cons.mp hb).1 x hx
        omega
    · have := h0 y List.mem_cons_self l e
      omega
def live (r : Rc) : Prop := isF r = false
def Big : Rc → Prop
  | .leaf _ _ ks _ => ks.length = 5
  | .inner _ _ _ _ ps => ps.length = 6
  | .free _ => False
theorem split_at {l : List Int} {n : Nat} (h : n ≤ l.length) : ∃ a b, l = a ++ b ∧ a.length = n ∧ b.length = l.length - n := ⟨l.take n, l.drop n, (List.take_append_drop n l).symm, by simp [h], by simp⟩
theorem split_at1 {l : List Int} {n : Nat} (h : n < l.length) : ∃ a x b, l = a ++ x :: b ∧ a.length = n ∧ b.length = l.length - n - 1 := by
  obtain ⟨a, b, e, h1, h2⟩ := split_at (l := l) (n := n) (by omega)
  cases b with
  | nil => simp at h2; omega
  | cons x b => exact ⟨a, x, b, e, h1, by simp at h2; omega⟩
theorem OkI.cut {lv : Int} {lo hi : Option Int} {a b c d : List Int} {s : Int} (O : OkI lv lo hi (a ++ s :: b) (c ++ d)) (h : c.length = a.length + 1) : OkI lv lo (some s) a c ∧ OkI lv (some s) hi b d := by
  have asc := O.asc
  have len := O.len
  have few := O.few
  simp only [List.length_append, List.length_cons] at len few
  rw [List.pairwise_append] at asc
  obtain ⟨p1, p2, p3⟩ := asc
  obtain ⟨p4, p5⟩ := List.pairwise_cons.mp p2
  obtain ⟨i1, i2⟩ := O.ins s (by simp)
  refine ⟨⟨O.lv, h, fun l h el eh => ?_, p1, fun k hk => ⟨(O.ins k (by simp [hk])).1, fun x e => ?_⟩, by omega⟩, ⟨O.lv, by omega, fun l h el eh => ?_, p5, fun k hk => ⟨fun x e => ?_, (O.ins k (by simp [hk])).2⟩, by omega⟩⟩
  · cases eh
    exact i1 l el
  · cases e
    exact p3 k hk _ List.mem_cons_self
  · cases el
    exact i2 h eh
  · cases e
    exact p4 k hk
theorem OkI.join {lv : Int} {lo hi : Option Int} {a b c d : List Int} {s : Int} (O1 : OkI lv lo (some s) a c) (O2 : OkI lv (some s) hi b d) (few : a.length + b.length ≤ 900) : OkI lv lo hi (a ++ s :: b) (c ++ d) := by
  have l1 := O1.len
  have l2 := O2.len
  refine ⟨O1.lv, by simp only [List.length_append, List.length_cons]; omega, fun l h el eh => ?_, ?_, fun k hk => ?_, by simp only [List.length_append, List.length_cons]; omega⟩
  · have := O1.lh l s el rfl
    have := O2.lh s h rfl eh
    omega
  · rw [List.pairwise_append]
    refine ⟨O1.asc, List.pairwise_cons.mpr ⟨fun x hx => (O2.ins x hx).1 s rfl, O2.asc⟩, fun x hx y hy => ?_⟩
    have hx' := (O1.ins x hx).2 s rfl
    rcases List.mem_cons.mp hy with rfl | hy
    · exact hx'
    · have := (O2.ins y hy).1 s rfl
      omega
  · rw [List.mem_append, List.mem_cons] at hk
    rcases hk with hk | rfl | hk
    · refine ⟨(O1.ins k hk).1, fun x e => ?_⟩
      have := (O1.ins k hk).2 s rfl
      have := O2.lh s x rfl e
      omega
    · exact ⟨fun x e => O1.lh x k e rfl, fun x e => O2.lh k x rfl e⟩
    · refine ⟨fun x e => ?_, (O2.ins k hk).2⟩
      have := (O2.ins k hk).1 s rfl
      have := O1.lh x s e rfl
      omega
theorem OkL.cut {lo hi : Option Int} {a b c d : List Int} {s : Int} (O : OkL lo hi (a ++ s :: b) (c ++ d)) (h : c.length = a.length) (h0 : 0 < a.length) : OkL lo (some s) a c ∧ OkL (some s) hi (s :: b) d := by
  have asc := O.asc
  have len := O.len
  have few := O.few
  simp only [List.length_append, List.length_cons] at len few
  rw [List.pairwise_append] at asc
  obtain ⟨p1, p2, p3⟩ := asc
  obtain ⟨p4, p5⟩ := List.pairwise_cons.mp p2
  obtain ⟨i1, i2⟩ := O.cov s (by simp)
  refine ⟨⟨h.symm, fun l h el eh => ?_, p1, fun k hk => ⟨(O.cov k (by simp [hk])).1, fun x e => ?_⟩, by omega⟩, ⟨by simp only [List.length_cons]; omega, fun l h el eh => ?_, p2, fun k hk => ⟨fun x e => ?_, (O.cov k (List.mem_append_right _ hk)).2⟩, by simp only [List.length_cons]; omega⟩⟩
  · cases eh
    have h1 : a[0] ∈ a := List.getElem_mem h0
    have := (O.cov a[0] (List.mem_append_left _ h1)).1 l el
    have := p3 _ h1 s List.mem_cons_self
    omega
  · cases e
    exact p3 k hk _ List.mem_cons_self
  · cases el
    exact i2 h eh
  · cases e
    rcases List.mem_cons.mp hk with rfl | hk
    · exact Int.le_refl _
    · have := p4 k hk
      omega
theorem OkL.join {lo hi : Option Int} {a b c d : List Int} {s : Int} (O1 : OkL lo (some s) a c) (O2 : OkL (some s) hi b d) (few : a.length + b.length ≤ 900) : OkL lo hi (a ++ b) (c ++ d) := by
  have l1 := O1.len
  have l2 := O2.len
  refine ⟨by simp only [List.length_append]; omega, fun l h el eh => ?_, ?_, fun k hk => ?_, by simp only [List.length_append]; omega⟩
  · have := O1.lh l s el rfl
    have := O2.lh s h rfl eh
    omega
  · rw [List.pairwise_append]
    refine ⟨O1.asc, O2.asc, fun x hx y hy => ?_⟩
    have hx' := (O1.cov x hx).2 s rfl
    have := (O2.cov y hy).1 s rfl
    omega
  · rw [List.mem_append] at hk
    rcases hk with hk | hk
    · refine ⟨(O1.cov k hk).1, fun x e => ?_⟩
      have := (O1.cov k hk).2 s rfl
      have := O2.lh s x rfl e
      omega
    · refine ⟨fun x e => ?_, (O2.cov k hk).2⟩
      have := (O2.cov k hk).1 s rfl
      have := O1.lh x s e rfl
      omega
structure CutTo (r f g : Rc) (s : Int) : Prop where
  ev : fn_cut [enc r] = some (.tup [enc f, .int s, enc g])
  okf : Ok f
  okg : Ok g
  lf : live f
  lg : live g
  vf : lvl f = lvl r
  vg : lvl g = lvl r
  lof : lo_ f = lo_ r
  hif : hi_ f = some s
  log : lo_ g = some s
  hig : hi_ g = hi_ r
  sf : sz f = 3
  sg1 : 2 ≤ sz g
  sg2 : sz g ≤ 3
  kd : kids r = kids f ++ kids g
  it : its r = its f ++ its g
  gt : gtLo (lo_ r) s
  lt : ltHi (hi_ r) s
theorem cut_ok {r : Rc} (O : Ok r) (B : Big r) : ∃ f g s, CutTo r f g s := by
  cases r with
  | free n => exact B.elim
  | leaf lo hi ks vs =>
    have B : ks.length = 5 := B
    have O : OkL lo hi ks vs := O
    have len := O.len
    obtain ⟨a, s, b, rfl, e1, e2⟩ := split_at1 (l := ks) (n := 3) (by omega)
    obtain ⟨c, d, rfl, e3, e4⟩ := split_at (l := vs) (n := 3) (by omega)
    obtain ⟨O1, O2⟩ := O.cut (by omega) (by omega)
    refine ⟨.leaf lo (some s) a c, .leaf (some s) hi (s :: b) d, s, cut_leaf_ok O O1 O2 (by omega), O1, O2, rfl, rfl, rfl, rfl, rfl, rfl, rfl, rfl, e1, ?_, ?_, rfl, ?_, ?_, ?_⟩
    · show 2 ≤ (s :: b).length
      simp only [List.length_cons]
      omega
    · show (s :: b).length ≤ 3
      simp only [List.length_cons]
      omega
    · exact zip_split (by omega)
    · exact fun l e => O1.lh l s e rfl
    · exact fun l e => O2.lh s l rfl e
  | inner lv lo hi ks ps =>
    have B : ps.length = 6 := B
    have O : OkI lv lo hi ks ps := O
    have len := O.len
    obtain ⟨a, s, b, rfl, e1, e2⟩ := split_at1 (l := ks) (n := 2) (by omega)
    obtain ⟨c, p, d, rfl, e3, e4⟩ := split_at1 (l := ps) (n := 2) (by omega)
    have e5 : c ++ p :: d = (c ++ [p]) ++ d := by simp
    have O' := O
    rw [e5] at O'
    obtain ⟨O1, O2⟩ := O'.cut (by simp only [List.length_append, List.length_cons, List.length_nil]; omega)
    refine ⟨.inner lv lo (some s) a (c ++ [p]), .inner lv (some s) hi b d, s, cut_inner_ok O O1 O2 (by omega), O1, O2, rfl, rfl, rfl, rfl, rfl, rfl, rfl, rfl, ?_, ?_, ?_, ?_, rfl, ?_, ?_⟩
    · show (c ++ [p]).length = 3
      simp only [List.length_append, List.length_cons, List.length_nil]
      omega
    · show 2 ≤ d.length
      omega
    · show d.length ≤ 3
      omega
    · show kidsF _ _ _ _ _ = kidsF _ _ _ _ _ ++ kidsF _ _ _ _ _
      rw [e5]
      exact kids_cut (by simp only [List.length_append, List.length_cons, List.length_nil]; omega)
    · exact fun l e => O1.lh l s e rfl
    · exact fun l e => O2.lh s l rfl e
structure JoinTo (f g r : Rc) (s : Int) : Prop where
  ev : fn_joined [enc f, .int s, enc g] = some (enc r)
  ok : Ok r
  lr : live r
  vr : lvl r = lvl f
  lo : lo_ r = lo_ f
  hi : hi_ r = hi_ g
  sz : sz r = sz f + sz g
  kd : kids r = kids f ++ kids g
  it : its r = its f ++ its g
theorem join_ok {f g : Rc} {s : Int} (Of : Ok f) (Og : Ok g) (lf : live f) (lg : live g) (v : lvl f = lvl g) (h1 : hi_ f = some s) (h2 : lo_ g = some s) (z : sz f + sz g ≤ 20) : ∃ r, JoinTo f g r s := by
  cases f with
  | free n => cases lf
  | leaf lo hi ks vs => cases g with
    | free n => cases lg
    | inner lv lo' hi' ks' ps' =>
      have := (show OkI lv lo' hi' ks' ps' from Og).lv
      have v : (0 : Int) = lv := v
      omega
    | leaf lo' hi' ks' vs' =>
      obtain rfl : hi = some s := h1
      obtain rfl : lo' = some s := h2
      have z : ks.length + ks'.length ≤ 20 := z
      have O1 : OkL _ _ _ _ := Of
      have O2 : OkL _ _ _ _ := Og
      have O := O1.join O2 (by omega)
      exact ⟨.leaf lo hi' (ks ++ ks') (vs ++ vs'), joined_leaf_ok O O1 O2, O, rfl, rfl, rfl, rfl, List.length_append, rfl, zip_split O1.len⟩
  | inner lv lo hi ks ps => cases g with
    | free n => cases lg
    | leaf lo' hi' ks' vs' =>
      have := (show OkI lv lo hi ks ps from Of).lv
      have v : lv = 0 := v
      omega
    | inner lv' lo' hi' ks' ps' =>
      obtain rfl : hi = some s := h1
      obtain rfl : lo' = some s := h2
      obtain rfl : lv = lv' := v
      have z : ps.length + ps'.length ≤ 20 := z
      have O1 : OkI _ _ _ _ _ := Of
      have O2 : OkI _ _ _ _ _ := Og
      have l1 := O1.len
      have l2 := O2.len
      have O := O1.join O2 (by omega)
      exact ⟨.inner lv lo hi' (ks ++ s :: ks') (ps ++ ps'), joined_inner_ok O O1 O2, O, rfl, rfl, rfl, rfl, List.length_append, kids_cut l1, rfl⟩
/-- the parent's change: its slots xs for ys -/
structure ParTo (r r' : Rc) (xs ys : List Slot) (n : Int) : Prop where
  ok : Ok r'
  inn : ∃ lv lo hi ks ps, r' = .inner lv lo hi ks ps
  lv : lvl r' = lvl r
  lo : lo_ r' = lo_ r
  hi : hi_ r' = hi_ r
  sz : (sz r' : Int) = sz r + n
  kd : ∀ s, (kids r').count s + xs.count s = (kids r).count s + ys.count s
theorem par_ins {lv : Int} {lo hi : Option Int} {a b c d : List Int} {s p q : Int} (O : OkI lv lo hi (a ++ b) (c ++ p :: d)) (h1 : a.length = c.length) (few : c.length + d.length ≤ 100) (g : gtLo (endL lo a) s) (g2 : ltHi (headR hi b) s) :
    ∃ r', fn_with_child [enc (.inner lv lo hi (a ++ b) (c ++ p :: d)), .int a.length, .int s, .int q] = some (enc r') ∧ ParTo (.inner lv lo hi (a ++ b) (c ++ p :: d)) r' [(p, endL lo a, headR hi b, lv - 1)] [(p, endL lo a, some s, lv - 1), (q, some s, headR hi b, lv - 1)] 1 := by
  have len := O.len
  have asc := List.pairwise_append.mp O.asc
  simp only [List.length_append, List.length_cons] at len
  obtain ⟨x1, x2⟩ := endL_le asc.1 (fun x hx => (O.ins x (List.mem_append_left _ hx)).1) g
  obtain ⟨y1, y2⟩ := headR_ge asc.2.1 (fun x hx => (O.ins x (List.mem_append_right _ hx)).2) g2
  have O' : OkI lv lo hi (a ++ s :: b) (c ++ p :: q :: d) := ⟨O.lv, by simp only [List.length_append, List.length_cons]; omega, O.lh, asc_ins O.asc x1 y1, fun k hk => by
    rw [List.mem_append, List.mem_cons] at hk
    rcases hk with hk | rfl | hk
    · exact O.ins k (List.mem_append_left _ hk)
    · exact ⟨x2, y2⟩
    · exact O.ins k (List.mem_append_right _ hk), by simp only [List.length_append, List.length_cons]; omega⟩
  refine ⟨_, with_child_ok O' h1, O', ⟨_, _, _, _, _, rfl⟩, rfl, rfl, rfl, ?_, fun t => ?_⟩
  · show (((c ++ p :: q :: d).length : Nat) : Int) = ((c ++ p :: d).length : Nat) + 1
    simp only [List.length_append, List.length_cons]
    omega
  · show (kidsF _ _ _ _ _).count t + _ = (kidsF _ _ _ _ _).count t + _
    rw [kids2 h1 (by omega), kids1 h1 (by omega)]
    simp only [List.count_append, List.count_cons, List.count_nil]
    omega
theorem par_del {lv : Int} {lo hi : Option Int} {a b c d : List Int} {s p q n : Int} (O : OkI lv lo hi (a ++ s :: b) (c ++ p :: q :: d)) (h1 : a.length = c.length) (hn : n = (a.length : Int) + 1) :
    ∃ r', fn_without_child [enc (.inner lv lo hi (a ++ s :: b) (c ++ p :: q :: d)), .int n] = some (enc r') ∧ ParTo (.inner lv lo hi (a ++ s :: b) (c ++ p :: q :: d)) r' [(p, endL lo a, some s, lv - 1), (q, some s, headR hi b, lv - 1)] [(p, endL lo a, headR hi b, lv - 1)] (-1) := by
  have len := O.len
  have few := O.few
  simp only [List.length_append, List.length_cons] at len few
  have O' : OkI lv lo hi (a ++ b) (c ++ p :: d) := ⟨O.lv, by simp only [List.length_append, List.length_cons]; omega, O.lh, asc_del O.asc, fun k hk => by
    rw [List.mem_append] at hk
    rcases hk with hk | hk
    · exact O.ins k (List.mem_append_left _ hk)
    · exact O.ins k (List.mem_append_right _ (List.mem_cons_of_mem _ hk)), by simp only [List.length_append]; omega⟩
  refine ⟨_, without_child_ok O' h1 hn, O', ⟨_, _, _, _, _, rfl⟩, rfl, rfl, rfl, ?_, fun t => ?_⟩
  · show (((c ++ p :: d).length : Nat) : Int) = ((c ++ p :: q :: d).length : Nat) + -1
    simp only [List.length_append, List.length_cons]
    omega
  · show (kidsF _ _ _ _ _).count t + _ = (kidsF _ _ _ _ _).count t + _
    rw [kids2 h1 (by omega), kids1 h1 (by omega)]
    simp only [List.count_append, List.count_cons, List.count_nil]
    omega
theorem par_sep {lv : Int} {lo hi : Option Int} {a b c d : List Int} {s t p q n : Int} (O : OkI lv lo hi (a ++ s :: b) (c ++ p :: q :: d)) (h1 : a.length = c.length) (hn : n = (a.length : Int) + 1) (g : gtLo (endL lo a) t) (g2 : ltHi (headR hi b) t) :
    ∃ r', fn_with_separator [enc (.inner lv lo hi (a ++ s :: b) (c ++ p :: q :: d)), .int n, .int t] = some (enc r') ∧ ParTo (.inner lv lo hi (a ++ s :: b) (c ++ p :: q :: d)) r' [(p, endL lo a, some s, lv - 1), (q, some s, headR hi b, lv - 1)] [(p, endL lo a, some t, lv - 1), (q, some t, headR hi b, lv - 1)] 0 := by
  have len := O.len
  have few := O.few
  simp only [List.length_append, List.length_cons] at len few
  have asc := List.pairwise_append.mp (asc_del O.asc)
  obtain ⟨x1, x2⟩ := endL_le asc.1 (fun x hx => (O.ins x (List.mem_append_left _ hx)).1) g
  obtain ⟨y1, y2⟩ := headR_ge asc.2.1 (fun x hx => (O.ins x (List.mem_append_right _ (List.mem_cons_of_mem _ hx))).2) g2
  have O' : OkI lv lo hi (a ++ t :: b) (c ++ p :: q :: d) := ⟨O.lv, by simp only [List.length_append, List.length_cons]; omega, O.lh, asc_ins (asc_del O.asc) x1 y1, fun k hk => by
    rw [List.mem_append, List.mem_cons] at hk
    rcases hk with hk | rfl | hk
    · exact O.ins k (List.mem_append_left _ hk)
    · exact ⟨x2, y2⟩
    · exact O.ins k (List.mem_append_right _ (List.mem_cons_of_mem _ hk)), by simp only [List.length_append, List.length_cons]; omega⟩
  refine ⟨_, with_separator_ok O' hn, O', ⟨_, _, _, _, _, rfl⟩, rfl, rfl, rfl, ?_, fun u => ?_⟩
  · show (((c ++ p :: q :: d).length : Nat) : Int) = ((c ++ p :: q :: d).length : Nat) + 0
    omega
  · show (kidsF _ _ _ _ _).count u + _ = (kidsF _ _ _ _ _).count u + _
    rw [kids2 h1 (by omega), kids2 h1 (by omega)]
    simp only [List.count_append, List.count_cons, List.count_nil]
    omega
end K32
end
section
set_option Elab.async false
set_option linter.all false
set_option maxRecDepth 100000
set_option maxHeartbeats 4000000
/-! evaluation of the Draft's methods by value -/
namespace K32
open PySem PySem.Spec PyProof.Rows L2
def pR (st : Dr) (n : Int) (d : D) : Dr := { st with recs := dPut st.recs n d }
def pA (st : Dr) (n : Int) (d : D) : Dr := { st with adrs := dPut st.adrs n d }
def pF (st : Dr) : Dr := { st with fresh := st.fresh - 1 }
def putRO : Option D → Option D → Option Dr → Nat → En → Option Out
  | some d, some (.int n), some st, i, ρ => if st.recs.length < 100000 then some (.nx (ρ.set i (some (.ob (pR st n d))))) else none
  | _, _, _, _, _ => none
def putAO : Option D → Option D → Option Dr → Nat → En → Option Out
  | some d, some (.int n), some st, i, ρ => if st.adrs.length < 100000 then some (.nx (ρ.set i (some (.ob (pA st n d))))) else none
  | _, _, _, _, _ => none
def freshO : Option Dr → Nat → En → Option Out
  | some st, i, ρ => some (.nx (ρ.set i (some (.ob (pF st)))))
  | none, _, _ => none
def fldO (sel : Dr → D) : Option Dr → Option D
  | some st => some (sel st)
  | none => none
def mO (i : Nat) : Option (D × Dr) → En → Option (D × En)
  | some (d, st), ρ => some (d, ρ.set i (some (.ob st)))
  | none, _ => none
def methO (fn : FMd) (i : Nat) : Option (List D) → Option Dr → En → Option (D × En)
  | some ds, some st, ρ => mO i (fn st ds) ρ
  | _, _, _ => none
def aM2 : D → Option (List D × En) → Option (List D × En)
  | d, some (ds, ρ) => some (d :: ds, ρ)
  | _, none => none
def aM1 : Option (D × En) → List FM → Option (List D × En)
  | some (d, ρ), ms => aM2 d (fAllM ms ρ)
  | none, _ => none
def tM2 : Option (List D × En) → Option (D × En)
  | some (ds, ρ) => some (.tup ds, ρ)
  | none => none
def makeO (i : Nat) : Option (List D) → En → Option Out
  | some [d1, d2], ρ => some (.nx (ρ.set i (some (.ob ⟨d1, d2, [], [], 0⟩))))
  | _, _ => none
def endM : Option Out → Option (D × Dr)
  | some o => outM o
  | none => none
section
variable {fk fv f g : FD} {ρ : En} {sel : Dr → D} {st : Dr} {i n : Nat} {x : Option Sl} {fn : FMd} {l : List FD} {ms : List FM} {m : FM} {s : FS} {a b c d e : D} {ds : List D}
theorem at_0 : atOb 0 (some (.ob st) :: ρ) = some st := rfl
theorem at_s : atOb (n + 1) (x :: ρ) = atOb n ρ := rfl
theorem ev_putR : gPutR i fk fv ρ = putRO (fv ρ) (fk ρ) (atOb i ρ) i ρ := by
  unfold gPutR
  cases fv ρ with
  | none => rfl
  | some d => cases fk ρ with
    | none => rfl
    | some k => cases k <;> first | rfl | (cases atOb i ρ <;> rfl)
theorem ev_putA : gPutA i fk fv ρ = putAO (fv ρ) (fk ρ) (atOb i ρ) i ρ := by
  unfold gPutA
  cases fv ρ with
  | none => rfl
  | some d => cases fk ρ with
    | none => rfl
    | some k => cases k <;> first | rfl | (cases atOb i ρ <;> rfl)
theorem ev_fresh : gFresh i ρ = freshO (atOb i ρ) i ρ := by unfold gFresh; cases atOb i ρ <;> rfl
theorem ev_fld : fFld sel i ρ = fldO sel (atOb i ρ) := by unfold fFld; cases atOb i ρ <;> rfl
theorem ev_meth : fMeth fn i l ρ = methO fn i (fAll l ρ) (atOb i ρ) ρ := by
  unfold fMeth
  cases fAll l ρ with
  | none => rfl
  | some ds => cases atOb i ρ with
    | none => rfl
    | some st =>
      show ((fn st ds).map _) = mO i (fn st ds) ρ
      cases fn st ds <;> rfl
theorem ev_aM0 : fAllM [] ρ = some ([], ρ) := rfl
theorem ev_aM1 : fAllM (m :: ms) ρ = aM1 (m ρ) ms := by
  show (m ρ).bind _ = _
  cases m ρ with
  | none => rfl
  | some q =>
    obtain ⟨d, ρ1⟩ := q
    show (fAllM ms ρ1).map _ = aM2 d (fAllM ms ρ1)
    cases fAllM ms ρ1 <;> rfl
theorem ev_tupM : fTupM ms ρ = tM2 (fAllM ms ρ) := by unfold fTupM; cases fAllM ms ρ <;> rfl
theorem ev_make : gMake i l ρ = makeO i (fAll l ρ) ρ := by
  unfold gMake
  cases fAll l ρ with
  | none => rfl
  | some ds => rcases ds with _ | ⟨d1, _ | ⟨d2, _ | ⟨d3, ds⟩⟩⟩ <;> rfl
theorem j_putR {k : Int} (h : st.recs.length < 100000) : putRO (some d) (some (.int k)) (some st) i ρ = some (.nx (ρ.set i (some (.ob (pR st k d))))) := if_pos h
theorem j_putA {k : Int} (h : st.adrs.length < 100000) : putAO (some d) (some (.int k)) (some st) i ρ = some (.nx (ρ.set i (some (.ob (pA st k d))))) := if_pos h
theorem j_fresh : freshO (some st) i ρ = some (.nx (ρ.set i (some (.ob (pF st))))) := rfl
theorem j_fld : fldO sel (some st) = some (sel st) := rfl
theorem j_meth : methO fn i (some ds) (some st) ρ = mO i (fn st ds) ρ := rfl
theorem j_mO : mO i (some (d, st)) ρ = some (d, ρ.set i (some (.ob st))) := rfl
theorem j_aM1 : aM1 (some (d, ρ)) ms = aM2 d (fAllM ms ρ) := rfl
theorem j_aM2 : aM2 d (some (ds, ρ)) = some (d :: ds, ρ) := rfl
theorem j_tM2 : tM2 (some (ds, ρ)) = some (.tup ds, ρ) := rfl
theorem j_make : makeO i (some [a, b]) ρ = some (.nx (ρ.set i (some (.ob ⟨a, b, [], [], 0⟩)))) := rfl
theorem j_endMR : endM (some (.rt d (some (.ob st) :: ρ))) = some (d, st) := rfl
theorem j_endMN : endM (some (.nx (some (.ob st) :: ρ))) = some (.non, st) := rfl
theorem fnM_0 : fnOfM (n + 1) 0 s st [] = endM (s (some (.ob st) :: nones n)) := by
  show (s (some (.ob st) :: List.replicate n none)).bind outM = _
  rw [repl_nones]
  cases s _ <;> rfl
theorem fnM_1 : fnOfM (n + 2) 1 s st [a] = endM (s (some (.ob st) :: some (.fz a) :: nones n)) := by
  show (s (some (.ob st) :: some (.fz a) :: List.replicate n none)).bind outM = _
  rw [repl_nones]
  cases s _ <;> rfl
theorem fnM_2 : fnOfM (n + 3) 2 s st [a, b] = endM (s (some (.ob st) :: some (.fz a) :: some (.fz b) :: nones n)) := by
  show (s (some (.ob st) :: some (.fz a) :: some (.fz b) :: List.replicate n none)).bind outM = _
  rw [repl_nones]
  cases s _ <;> rfl
theorem fnM_4 : fnOfM (n + 5) 4 s st [a, b, c, d] = endM (s (some (.ob st) :: some (.fz a) :: some (.fz b) :: some (.fz c) :: some (.fz d) :: nones n)) := by
  show (s (some (.ob st) :: some (.fz a) :: some (.fz b) :: some (.fz c) :: some (.fz d) :: List.replicate n none)).bind outM = _
  rw [repl_nones]
  cases s _ <;> rfl
end
/-! the typed state -/
structure Step where
  p : Int
  a : Int
  r : Rc
  ck : Int
def encS (s : Step) : D := .tup [.int s.p, .int s.a, enc s.r, .int s.ck]
structure Tr where
  p : Int
  a : Int
  old : Rc
  new : Rc
def recsT (R : List Tr) : List (Int × D) := R.map fun t => (t.p, enc t.new)
def adrsT (R : List Tr) : List (Int × D) := (R.filter fun t => decide (0 ≤ t.p)).map fun t => (t.p, .int t.a)
def sibsT (S : List Step) : List (Int × D) := S.map fun s => (s.p, encS s)
def dr (path sibs : List Step) (R : List Tr) (fr : Nat) : Dr := ⟨.lst (path.map encS), .dic (sibsT sibs), recsT R, adrsT R, -(fr : Int)⟩
theorem encS_def (s : Step) : encS s = .tup [.int s.p, .int s.a, enc s.r, .int s.ck] := rfl
theorem dr_fr {path sibs R fr} : drFr (dr path sibs R fr) = .int (-(fr : Int)) := rfl
theorem dPut_new {es : List (Int × D)} {k : Int} {d : D} (h : ∀ e ∈ es, e.1 ≠ k) : dPut es k d = es ++ [(k, d)] := by
  unfold dPut
  rw [if_neg]
  simp only [List.any_eq_true, decide_eq_true_eq, not_exists, not_and]
  exact fun e he => h e he
theorem path_ix {path sibs : List Step} {i : Nat} {s : Step} (h : path[i]? = some s) (R : List Tr) (fr : Nat) : dIx (dr path sibs R fr).path (.int (i : Int)) = some (encS s) := by
  show atI (path.map encS) (i : Int) = _
  exact atI_nat (by rw [List.getElem?_map, h]; rfl)
theorem eq_bds {a b : Option Int} : dEq (.tup [bd a, bd b]) (.tup [bd a, bd b]) = some (.bl true) := by
  cases a <;> cases b <;> simp [bd, dEq, eqB, flats, flat]
theorem ne_bds {a b : Option Int} : dNe (.tup [bd a, bd b]) (.tup [bd a, bd b]) = some (.bl false) := by
  cases a <;> cases b <;> simp [bd, dNe, eqB, flats, flat]
theorem give_ok {path sibs : List Step} {R : List Tr} {fr : Nat} {p a : Int} {x y : D} {old new : Rc} (hp : 0 ≤ p) (h : ∀ t ∈ R, t.p ≠ p) (hl : R.length ≤ 1000) :
    fn_Draft_give (dr path sibs R fr) [.tup [.int p, .int a, x, y], enc new] = some (.non, dr path sibs (R ++ [⟨p, a, old, new⟩]) fr) := by
  have e1 : pA (pR (dr path sibs R fr) p (enc new)) p (.int a) = dr path sibs (R ++ [⟨p, a, old, new⟩]) fr := by
    unfold pA pR dr
    simp only
    have e2 : dPut (recsT R) p (enc new) = recsT (R ++ [⟨p, a, old, new⟩]) := by
      rw [dPut_new]
      · simp [recsT]
      · intro e he
        obtain ⟨t, ht, rfl⟩ := List.mem_map.mp he
        exact h t ht
    have e3 : dPut (adrsT R) p (.int a) = adrsT (R ++ [⟨p, a, old, new⟩]) := by
      rw [dPut_new]
      · simp [adrsT, List.filter_append, hp]
      · intro e he
        obtain ⟨t, ht, rfl⟩ := List.mem_map.mp he
        exact h t (List.mem_filter.mp ht).1
    rw [e2, e3]
  have l1 : (dr path sibs R fr).recs.length < 100000 := by
    show (recsT R).length < _
    simp only [recsT, List.length_map]
    omega
  have l2 : (pR (dr path sibs R fr) p (enc new)).adrs.length < 100000 := by
    show (adrsT R).length < _
    simp only [adrsT, List.length_map]
    have := List.length_filter_le (fun t : Tr => decide (0 ≤ t.p)) R
    omega
  unfold fn_Draft_give g_Draft_give
  rw [fnM_2]
  simp only [ev_seq, ev_putR, ev_f2, ev_vs, ev_v0, ev_fC, j_b2, ix0, ix1, at_0, j_putR l1, j_seqN, ev_st0, ev_putA, j_putA l2, j_nones0, e1, j_endMN]
theorem add_page_ok {path sibs : List Step} {R : List Tr} {fr : Nat} {new : Rc} (h : ∀ t ∈ R, -(fr : Int) ≤ t.p) (hl : R.length ≤ 1000) :
    fn_Draft_add_page (dr path sibs R fr) [enc new] = some (.int (-((fr + 1 : Nat) : Int)), dr path sibs (R ++ [⟨-((fr + 1 : Nat) : Int), 0, .free 0, new⟩]) (fr + 1)) := by
  have e1 : pR (pF (dr path sibs R fr)) (-((fr + 1 : Nat) : Int)) (enc new) = dr path sibs (R ++ [⟨-((fr + 1 : Nat) : Int), 0, .free 0, new⟩]) (fr + 1) := by
    unfold pF pR dr
    simp only
    have e2 : dPut (recsT R) (-((fr + 1 : Nat) : Int)) (enc new) = recsT (R ++ [⟨-((fr + 1 : Nat) : Int), 0, .free 0, new⟩]) := by
      rw [dPut_new]
      · simp [recsT]
      · intro e he
        obtain ⟨t, ht, rfl⟩ := List.mem_map.mp he
        have := h t ht
        simp only
        omega
    have e3 : adrsT (R ++ [⟨-((fr + 1 : Nat) : Int), 0, .free 0, new⟩]) = adrsT R := by
      unfold adrsT
      rw [List.filter_append, List.filter_cons_of_neg (by simp)]
      simp
    have e4 : -(fr : Int) - 1 = -((fr + 1 : Nat) : Int) := by omega
    rw [e2, e3, e4]
  have l1 : (pF (dr path sibs R fr)).recs.length < 100000 := by
    show (recsT R).length < _
    simp only [recsT, List.length_map]
    omega
  have e4 : drFr (pF (dr path sibs R fr)) = .int (-((fr + 1 : Nat) : Int)) := by
    show D.int (-(fr : Int) - 1) = _
    congr 1
    omega
  unfold fn_Draft_add_page g_Draft_add_page
  rw [fnM_1]
  simp only [ev_seq, ev_fresh, at_0, j_fresh, ev_st0, j_seqN, ev_putR, ev_vs, ev_v0, ev_fld, j_fld, e4, j_putR l1, e1, ev_ret, ev_fz5, ev_fz2, j_nones0, ev_fz0, ev_M, dr_fr, j_pM, j_ret, j_endMR]
end K32
end
section
set_option Elab.async false
set_option linter.all false
set_option maxRecDepth 100000
set_option maxHeartbeats 4000000
/-! the Draft's methods, by value -/
namespace K32
open PySem PySem.Spec PyProof.Rows L2
local macro_rules | `(tactic| walk_at "ev") => `(tactic| simp only [ev_f2, ev_f1, ev_fC, ev_v0, ev_vs, ev_c0, ev_c1, ev_c2, ev_cs, ev_call, ev_all0, ev_all1, ev_tup, ev_lst, ev_T, ev_andT, ev_orT, ev_notT, ev_and, ev_or, ev_not, ev_if, ev_seq, ev_nx, ev_bk, ev_no, ev_set, ev_M, ev_ret, ev_drop, ev_un, ev_ns1, ev_ns0, ev_sl, ev_o0, ev_o1, ev_neg, ev_ch, ev_fz0, ev_fz1, ev_fz2, ev_fz3, ev_fz4, ev_fz5, ev_st0, ev_sts, fn_0, fn_1, fn_2, fn_3, fn_4, fn_5,
  j_b1, j_b2, j_bL, j_cL, j_mD, j_bT, j_andT, j_andF, j_orF, j_orT, j_not, j_bl, j_aDT, j_aDF, j_oDF, j_oDT, j_ifT, j_ifF, j_seqN, j_seqR, j_seqB, j_set, j_pM, j_ret, j_drop, j_un, j_sl, j_some, j_chT, j_chF, j_chP, j_endR, j_endN, j_nones0, j_nonesS, ix0, ix1, ix2, ix3, ix4, ix5,
  d_lt, d_le, d_gt, d_ge, d_addI, d_sub, d_lenL, d_eqI, d_eqS, d_eqNI, d_eqIN, d_eqNN, d_neI, d_neS, d_neNI, d_neIN, d_neNN, d_isNN, d_isNI, d_isNB, d_isNT, d_isND, d_notNN, d_notNI, d_notNT, d_notND, d_slT, d_neg, d_tupT, d_tupL, d_listL, d_dict, d_intI, d_intB,
  List.length_cons, List.length_nil, Nat.reduceAdd, Nat.reduceSub, if_true, if_false, reduceIte, Bool.not_true, Bool.not_false, decide_true, decide_false, Bool.false_eq_true, tI_len, ev_for, ev_r1, ev_r2, ev_r3, ev_iT, ev_iL, ev_lc, ev_yes, j_for, j_iT, j_iTI, j_iL, isi_tup, isi_tI, isi_int, isi_ib, isi_non, dtup_tI, cut51, cut61, cut62, cut605, cut513, cut624, ixm5, ixm6, d_len2, d_len3, d_len4, d_len5, d_len6, s_ll, s_il, s_ii, s_fl, s_fi, s_li, s_ff, s_lf, s_if, eq_self, at_0, at_s, ev_putR, ev_putA, ev_fresh, ev_fld, ev_meth, ev_aM0, ev_aM1, ev_tupM, ev_make, j_fresh, j_fld, j_meth, j_mO, j_aM1, j_aM2, j_tM2, j_make, j_endMR, j_endMN, fnM_0, fnM_1, fnM_2, fnM_4, dr_fr, encS_def, eq_bds, ne_bds, Int.reduceLT, Int.reduceLE, Int.reduceEq, Int.reduceNeg])
local macro_rules | `(tactic| walk_at "evh") => `(tactic| simp only [*, ev_f2, ev_f1, ev_fC, ev_v0, ev_vs, ev_c0, ev_c1, ev_c2, ev_cs, ev_call, ev_all0, ev_all1, ev_tup, ev_lst, ev_T, ev_andT, ev_orT, ev_notT, ev_and, ev_or, ev_not, ev_if, ev_seq, ev_nx, ev_bk, ev_no, ev_set, ev_M, ev_ret, ev_drop, ev_un, ev_ns1, ev_ns0, ev_sl, ev_o0, ev_o1, ev_neg, ev_ch, ev_fz0, ev_fz1, ev_fz2, ev_fz3, ev_fz4, ev_fz5, ev_st0, ev_sts, fn_0, fn_1, fn_2, fn_3, fn_4, fn_5,
  j_b1, j_b2, j_bL, j_cL, j_mD, j_bT, j_andT, j_andF, j_orF, j_orT, j_not, j_bl, j_aDT, j_aDF, j_oDF, j_oDT, j_ifT, j_ifF, j_seqN, j_seqR, j_seqB, j_set, j_pM, j_ret, j_drop, j_un, j_sl, j_some, j_chT, j_chF, j_chP, j_endR, j_endN, j_nones0, j_nonesS, ix0, ix1, ix2, ix3, ix4, ix5,
  d_lt, d_le, d_gt, d_ge, d_addI, d_sub, d_lenL, d_eqI, d_eqS, d_eqNI, d_eqIN, d_eqNN, d_neI, d_neS, d_neNI, d_neIN, d_neNN, d_isNN, d_isNI, d_isNB, d_isNT, d_isND, d_notNN, d_notNI, d_notNT, d_notND, d_slT, d_neg, d_tupT, d_tupL, d_listL, d_dict, d_intI, d_intB,
  List.length_cons, List.length_nil, Nat.reduceAdd, Nat.reduceSub, if_true, if_false, reduceIte, Bool.not_true, Bool.not_false, decide_true, decide_false, Bool.false_eq_true, tI_len, ev_for, ev_r1, ev_r2, ev_r3, ev_iT, ev_iL, ev_lc, ev_yes, j_for, j_iT, j_iTI, j_iL, isi_tup, isi_tI, isi_int, isi_ib, isi_non, dtup_tI, cut51, cut61, cut62, cut605, cut513, cut624, ixm5, ixm6, d_len2, d_len3, d_len4, d_len5, d_len6, s_ll, s_il, s_ii, s_fl, s_fi, s_li, s_ff, s_lf, s_if, eq_self, at_0, at_s, ev_putR, ev_putA, ev_fresh, ev_fld, ev_meth, ev_aM0, ev_aM1, ev_tupM, ev_make, j_fresh, j_fld, j_meth, j_mO, j_aM1, j_aM2, j_tM2, j_make, j_endMR, j_endMN, fnM_0, fnM_1, fnM_2, fnM_4, dr_fr, encS_def, eq_bds, ne_bds, Int.reduceLT, Int.reduceLE, Int.reduceEq, Int.reduceNeg])

theorem loop_nx {bi : D → En → Option En} {body : FS} {ρ ρ1 ρ2 : En} {d : D} {ds : List D} (h1 : bi d ρ = some ρ1) (h2 : body ρ1 = some (.nx ρ2)) : loopS bi body (d :: ds) ρ = loopS bi body ds ρ2 := by
  conv => lhs; unfold loopS
  rw [h1]
  show (body ρ1).bind _ = _
  rw [h2]
  rfl
theorem loop_rt {bi : D → En → Option En} {body : FS} {ρ ρ1 ρ2 : En} {d d' : D} {ds : List D} (h1 : bi d ρ = some ρ1) (h2 : body ρ1 = some (.rt d' ρ2)) : loopS bi body (d :: ds) ρ = some (.rt d' ρ2) := by
  unfold loopS
  rw [h1]
  show (body ρ1).bind _ = _
  rw [h2]
  rfl
theorem loop_bk {bi : D → En → Option En} {body : FS} {ρ ρ1 ρ2 : En} {d : D} {ds : List D} (h1 : bi d ρ = some ρ1) (h2 : body ρ1 = some (.bk ρ2)) : loopS bi body (d :: ds) ρ = some (.nx ρ2) := by
  unfold loopS
  rw [h1]
  show (body ρ1).bind _ = _
  rw [h2]
  rfl
theorem loop_retJ {bi : D → En → Option En} {body : FS} (I : Nat → En → Prop) (J : En → Prop) {d' : D} : ∀ {ds : List D} {ρ : En} (j : Nat) (n : Nat), n < ds.length → I j ρ → (∀ i d ρ, i < n → ds[i]? = some d → I (j + i) ρ → ∃ ρ1 ρ2, bi d ρ = some ρ1 ∧ body ρ1 = some (.nx ρ2) ∧ I (j + i + 1) ρ2) →
    (∀ d ρ, ds[n]? = some d → I (j + n) ρ → ∃ ρ1 ρ2, bi d ρ = some ρ1 ∧ body ρ1 = some (.rt d' ρ2) ∧ J ρ2) → ∃ ρ2, loopS bi body ds ρ = some (.rt d' ρ2) ∧ J ρ2
  | [], ρ, j, n, hn, _, _, _ => by cases hn
  | d :: ds, ρ, j, 0, hn, h0, _, hr => by
    obtain ⟨ρ1, ρ2, e1, e2, e3⟩ := hr d ρ rfl h0
    exact ⟨ρ2, loop_rt e1 e2, e3⟩
  | d :: ds, ρ, j, n + 1, hn, h0, hs, hr => by
    obtain ⟨ρ1, ρ2, e1, e2, h2⟩ := hs 0 d ρ (by omega) rfl h0
    obtain ⟨ρ3, e3⟩ := loop_retJ I J (d' := d') (ds := ds) (ρ := ρ2) (j + 1) n (by simpa using hn) h2 (fun i d'' ρ3 hi hd h => by
      have := hs (i + 1) d'' ρ3 (by omega) (by simpa using hd) (by rw [show j + (i + 1) = j + 1 + i by omega]; exact h)
      rw [show j + (i + 1) + 1 = j + 1 + i + 1 by omega] at this
      exact this) (fun d'' ρ3 hd h => hr d'' ρ3 (by simpa using hd) (by rw [show j + (n + 1) = j + 1 + n by omega]; exact h))
    exact ⟨ρ3, (loop_nx e1 e2).trans e3.1, e3.2⟩
def b_place : FS := (gIf (fAndT (fT (f2 dEq (f2 dIx (f2 dIx (fVar 2) (fC (.int 5))) (fVar 6)) (fVar 3))) (fT (f2 dEq (fCall fn_child_bounds [(fVar 2), (fVar 6)]) (fCall fn_bounds_of [(fVar 5)])))) (gRet (fM (fVar 6))) gNx)
theorem place_in_parent_ok {path sibs : List Step} {R : List Tr} {fr : Nat} {i : Nat} {s t : Step} {lv : Int} {lo hi : Option Int} {a b c d : List Int}
    (h0 : path[i]? = some t) (h1 : path[i + 1]? = some s) (ht : t.r = .inner lv lo hi (a ++ b) (c ++ s.p :: d)) (hac : a.length = c.length) (hbd : b.length = d.length) (hn : ∀ x ∈ c, x ≠ s.p) (few : c.length + d.length ≤ 100)
    (hlo : lo_ s.r = endL lo a) (hhi : hi_ s.r = headR hi b) (hl : live s.r) :
    fn_Draft_place_in_parent (dr path sibs R fr) [.int ((i + 1 : Nat) : Int)] = some (.int a.length, dr path sibs R fr) := by
  have px := path_ix (sibs := sibs) h0 R fr
  have px1 := path_ix (sibs := sibs) h1 R fr
  have e0 : ((i + 1 : Nat) : Int) - 1 = (i : Int) := by omega
  have bs := bounds_of_enc hl
  rw [hlo, hhi] at bs
  have cb := child_bounds_inner (lv := lv) (lo := lo) (hi := hi) (ks := a ++ b) (ps := c ++ s.p :: d) (i := a.length) (by simp)
  rw [cbLo_end (hi := hi), cbHi_head] at cb
  have sze : fn_size_of [enc (.inner lv lo hi (a ++ b) (c ++ s.p :: d))] = some (.int ((c ++ s.p :: d).length)) := by
    unfold fn_size_of g_size_of
    rw [enc_inner]
    walk_at "ev"
  unfold fn_Draft_place_in_parent g_Draft_place_in_parent
  walk_at "ev"
  rw [e0, px]
  walk_at "ev"
  rw [px1]
  walk_at "ev"
  rw [ht, sze]
  rw [j_r1 (small_ok (by omega) (by simp only [List.length_append, List.length_cons]; omega))]
  walk_at "ev"
  obtain ⟨ρ', e, ρ'', rfl⟩ := loop_retJ (bi := bName 6) (body := b_place) (d' := .int a.length) (J := fun ρ => ∃ ρ', ρ = some (.ob (dr path sibs R fr)) :: ρ')
    (fun _ ρ => ∃ x, ρ = [some (.ob (dr path sibs R fr)), some (.fz (.int ((i + 1 : Nat) : Int))), some (.fz (enc (.inner lv lo hi (a ++ b) (c ++ s.p :: d)))), some (.fz (.int s.p)), some (.fz (.int s.ck)), some (.fz (enc s.r)), x])
    (ds := rngD 0 1 (((c ++ s.p :: d).length : Int)).toNat) (ρ := [some (.ob (dr path sibs R fr)), some (.fz (.int ((i + 1 : Nat) : Int))), some (.fz (enc (.inner lv lo hi (a ++ b) (c ++ s.p :: d)))), some (.fz (.int s.p)), some (.fz (.int s.ck)), some (.fz (enc s.r)), none]) 0 c.length
    (by unfold rngD; simp only [List.length_map, List.length_range, List.length_append, List.length_cons]; omega) ⟨none, rfl⟩ (by
      rintro n d' ρ hn' hd ⟨x, rfl⟩
      obtain ⟨hin, rfl⟩ := rngD_get hd
      have e1 : dIx (tI (c ++ s.p :: d)) (.int (0 + (n : Int) * 1)) = some (.int c[n]) := by
        rw [show 0 + (n : Int) * 1 = (n : Int) by omega]
        exact tI_ix (by rw [List.getElem?_append_left hn']; exact List.getElem?_eq_getElem hn')
      have e2 : decide (c[n] = s.p) = false := decide_eq_false (hn _ (List.getElem_mem hn'))
      refine ⟨_, _, rfl, ?_, ⟨some (.fz (.int (0 + (n : Int) * 1))), rfl⟩⟩
      unfold b_place sFz
      simp only [enc_inner]
      walk_at "ev"
      rw [e1]
      walk_at "ev"
      rw [e2]
      walk_at "ev") (by
      rintro d' ρ hd ⟨x, rfl⟩
      obtain ⟨hin, rfl⟩ := rngD_get hd
      have e1 : dIx (tI (c ++ s.p :: d)) (.int (a.length : Int)) = some (.int s.p) := ix_mid (by omega)
      have e3 : 0 + (c.length : Int) * 1 = (a.length : Int) := by omega
      refine ⟨_, [some (.ob (dr path sibs R fr)), some (.fz (.int ((i + 1 : Nat) : Int))), some (.fz (enc (.inner lv lo hi (a ++ b) (c ++ s.p :: d)))), some (.fz (.int s.p)), some (.fz (.int s.ck)), some (.fz (enc s.r)), some (.fz (.int (0 + (c.length : Int) * 1)))], rfl, ?_⟩
      unfold b_place sFz
      rw [e3]
      simp only [enc_inner] at cb ⊢
      walk_at "ev"
      rw [e1]
      walk_at "ev"
      refine ⟨?_, _, rfl⟩
      rw [cb, bs]
      walk_at "ev")
  unfold b_place at e
  rw [e]
  walk_at "ev"
def tr (s : Step) (new : Rc) : Tr := ⟨s.p, s.a, s.r, new⟩
def fresh (fr : Nat) (new : Rc) : Tr := ⟨-((fr + 1 : Nat) : Int), 0, .free 0, new⟩
/-- the pages given so far -/
structure Gv (R : List Tr) (fr : Nat) (ps : List Int) : Prop where
  low : ∀ t ∈ R, -(fr : Int) ≤ t.p
  len : R.length ≤ 100
  new : ∀ p ∈ ps, 0 ≤ p ∧ ∀ t ∈ R, t.p ≠ p
theorem divide_up {path sibs : List Step} {R : List Tr} {fr : Nat} {i : Nat} {s t : Step} {r f g r' : Rc} {sep : Int} {j : Int}
    (h0 : path[i]? = some t) (h1 : path[i + 1]? = some s) (hp : fn_Draft_place_in_parent (dr path sibs R fr) [.int ((i + 1 : Nat) : Int)] = some (.int j, dr path sibs R fr))
    (ct : fn_cut [enc r] = some (.tup [enc f, .int sep, enc g])) (wc : fn_with_child [enc t.r, .int j, .int sep, .int (-((fr + 1 : Nat) : Int))] = some (enc r')) (G : Gv R fr [s.p]) :
    fn_Draft_divide (dr path sibs R fr) [.int ((i + 1 : Nat) : Int), enc r] = some (.tup [.str "up", enc r'], dr path sibs (R ++ [tr s f] ++ [fresh fr g]) (fr + 1)) := by
  have px := path_ix (sibs := sibs) h0
  have px1 := path_ix (sibs := sibs) h1
  have e0 : ((i + 1 : Nat) : Int) - 1 = (i : Int) := by omega
  have ez : decide (((i + 1 : Nat) : Int) = 0) = false := decide_eq_false (by omega)
  obtain ⟨g1, g2⟩ := G.new s.p (by simp)
  have len := G.len
  have gv := give_ok (path := path) (sibs := sibs) (R := R) (fr := fr) (p := s.p) (a := s.a) (x := enc s.r) (y := .int s.ck) (old := s.r) (new := f) g1 g2 (by omega)
  have ap := add_page_ok (path := path) (sibs := sibs) (R := R ++ [tr s f]) (fr := fr) (new := g) (fun t ht => by
    rcases List.mem_append.mp ht with ht | ht
    · exact G.low t ht
    · cases List.mem_singleton.mp ht
      show -(fr : Int) ≤ s.p
      omega) (by simp; omega)
  have gv : fn_Draft_give (dr path sibs R fr) [.tup [.int s.p, .int s.a, enc s.r, .int s.ck], enc f] = some (.non, dr path sibs (R ++ [tr s f]) fr) := gv
  have ap : fn_Draft_add_page (dr path sibs (R ++ [tr s f]) fr) [enc g] = some (.int (-((fr + 1 : Nat) : Int)), dr path sibs (R ++ [tr s f] ++ [fresh fr g]) (fr + 1)) := ap
  generalize enc r = er at *
  unfold fn_Draft_divide g_Draft_divide
  clear g1 g2 G len h0 h1
  walk_at "ev"
  rw [ct]
  walk_at "ev"
  rw [ez]
  walk_at "ev"
  rw [hp]
  walk_at "ev"
  simp only [px1, j_b2]
  walk_at "ev"
  rw [gv]
  walk_at "ev"
  rw [ap]
  walk_at "ev"
  simp only [e0, px, j_b2]
  walk_at "ev"
  rw [wc]
  walk_at "ev"
theorem divide_root {path sibs : List Step} {R : List Tr} {fr : Nat} {s : Step} {r f g r' : Rc} {sep : Int}
    (h0 : path[0]? = some s)
    (ct : fn_cut [enc r] = some (.tup [enc f, .int sep, enc g])) (wc : fn_inner [.int (lvl r + 1), .non, .non, tI [sep], .tup [.int (-((fr + 1 : Nat) : Int)), .int (-((fr + 1 + 1 : Nat) : Int))]] = some (enc r')) (G : Gv R fr [s.p]) :
    fn_Draft_divide (dr path sibs R fr) [.int 0, enc r] = some (.tup [.str "done", .non], dr path sibs (R ++ [fresh fr f] ++ [fresh (fr + 1) g] ++ [tr s r']) (fr + 2)) := by
  have px := path_ix (sibs := sibs) h0
  obtain ⟨g1, g2⟩ := G.new s.p (by simp)
  have len := G.len
  have lv := level_of_enc r
  have ap := add_page_ok (path := path) (sibs := sibs) (R := R) (fr := fr) (new := f) G.low (by omega)
  have ap2 := add_page_ok (path := path) (sibs := sibs) (R := R ++ [fresh fr f]) (fr := fr + 1) (new := g) (fun t ht => by
    rcases List.mem_append.mp ht with ht | ht
    · have := G.low t ht
      omega
    · cases List.mem_singleton.mp ht
      show -((fr + 1 : Nat) : Int) ≤ -((fr + 1 : Nat) : Int)
      omega) (by simp; omega)
  have gv := give_ok (path := path) (sibs := sibs) (R := R ++ [fresh fr f] ++ [fresh (fr + 1) g]) (fr := fr + 2) (p := s.p) (a := s.a) (x := enc s.r) (y := .int s.ck) (old := s.r) (new := r') g1 (fun t ht => by
    rw [List.mem_append, List.mem_append, List.mem_singleton, List.mem_singleton] at ht
    rcases ht with (ht | rfl) | rfl
    · exact g2 t ht
    · show -((fr + 1 : Nat) : Int) ≠ s.p
      omega
    · show -((fr + 1 + 1 : Nat) : Int) ≠ s.p
      omega) (by simp; omega)
  have gv : fn_Draft_give (dr path sibs (R ++ [fresh fr f] ++ [fresh (fr + 1) g]) (fr + 1 + 1)) [.tup [.int s.p, .int s.a, enc s.r, .int s.ck], enc r'] = some (.non, dr path sibs (R ++ [fresh fr f] ++ [fresh (fr + 1) g] ++ [tr s r']) (fr + 2)) := gv
  have ap : fn_Draft_add_page (dr path sibs R fr) [enc f] = some (.int (-((fr + 1 : Nat) : Int)), dr path sibs (R ++ [fresh fr f]) (fr + 1)) := ap
  have ap2 : fn_Draft_add_page (dr path sibs (R ++ [fresh fr f]) (fr + 1)) [enc g] = some (.int (-((fr + 1 + 1 : Nat) : Int)), dr path sibs (R ++ [fresh fr f] ++ [fresh (fr + 1) g]) (fr + 1 + 1)) := ap2
  have px0 : ∀ R fr, dIx (dr path sibs R fr).path (.int 0) = some (encS s) := px
  have t1 : D.tup [.int sep] = tI [sep] := rfl
  generalize enc r = er at *
  unfold fn_Draft_divide g_Draft_divide
  clear g1 g2 G len h0
  walk_at "ev"
  rw [ct]
  walk_at "ev"
  rw [ap]
  walk_at "ev"
  rw [ap2]
  walk_at "ev"
  rw [lv]
  walk_at "ev"
  simp only [px0, j_b2, t1]
  walk_at "ev"
  rw [wc]
  walk_at "ev"
  rw [gv]
  walk_at "ev"
/-- two neighbours -/
theorem pair_cut {path sibs : List Step} {R : List Tr} {fr : Nat} {i : Nat} {t sl sr : Step} {rl rr j f g r' : Rc} {s sep n : Int}
    (h0 : path[i]? = some t) (jn : fn_joined [enc rl, .int s, enc rr] = some (enc j)) (lo : lo_ rr = some s) (lr : live rr) (oj : Ok j) (lj : live j) (big : (if lvl j = 0 then (4 : Int) else 5) < sz j)
    (ct : fn_cut [enc j] = some (.tup [enc f, .int sep, enc g])) (ws : fn_with_separator [enc t.r, .int n, .int sep] = some (enc r')) (G : Gv R fr [sl.p, sr.p]) (hne : sl.p ≠ sr.p) :
    fn_Draft_unite_pair (dr path sibs R fr) [.int ((i + 1 : Nat) : Int), .int n, .tup [encS sl, enc rl], .tup [encS sr, enc rr]] = some (.tup [.str "up", enc r'], dr path sibs (R ++ [tr sl f] ++ [tr sr g]) fr) := by
  have px := path_ix (sibs := sibs) h0
  have e0 : ((i + 1 : Nat) : Int) - 1 = (i : Int) := by omega
  obtain ⟨g1, g2⟩ := G.new sl.p (by simp)
  obtain ⟨g3, g4⟩ := G.new sr.p (by simp)
  have len := G.len
  have szj := size_of_enc oj lj
  have moj := most_of_enc oj lj
  have bj := bounds_of_enc lr
  rw [lo, bd_some] at bj
  have gv := give_ok (path := path) (sibs := sibs) (R := R) (fr := fr) (p := sl.p) (a := sl.a) (x := enc sl.r) (y := .int sl.ck) (old := sl.r) (new := f) g1 g2 (by omega)
  have gv2 := give_ok (path := path) (sibs := sibs) (R := R ++ [tr sl f]) (fr := fr) (p := sr.p) (a := sr.a) (x := enc sr.r) (y := .int sr.ck) (old := sr.r) (new := g) g3 (fun t ht => by
    rcases List.mem_append.mp ht with ht | ht
    · exact g4 t ht
    · cases List.mem_singleton.mp ht
      exact hne) (by simp; omega)
  have gv : fn_Draft_give (dr path sibs R fr) [.tup [.int sl.p, .int sl.a, enc sl.r, .int sl.ck], enc f] = some (.non, dr path sibs (R ++ [tr sl f]) fr) := gv
  have gv2 : fn_Draft_give (dr path sibs (R ++ [tr sl f]) fr) [.tup [.int sr.p, .int sr.a, enc sr.r, .int sr.ck], enc g] = some (.non, dr path sibs (R ++ [tr sl f] ++ [tr sr g]) fr) := gv2
  have hb := decide_eq_true big
  generalize enc rl = erl at *
  generalize enc rr = err at *
  unfold fn_Draft_unite_pair g_Draft_unite_pair
  clear g1 g2 g3 g4 G len h0 oj lj big lr lo hne
  walk_at "ev"
  simp only [e0, px, j_b2]
  walk_at "ev"
  rw [bj]
  walk_at "ev"
  rw [jn]
  walk_at "ev"
  rw [szj, moj]
  walk_at "ev"
  rw [hb]
  walk_at "ev"
  rw [ct]
  walk_at "ev"
  rw [gv]
  walk_at "ev"
  rw [gv2]
  walk_at "ev"
  rw [ws]
  walk_at "ev"
theorem pair_join {path sibs : List Step} {R : List Tr} {fr : Nat} {i : Nat} {t sl sr : Step} {rl rr j r' : Rc} {s n : Int}
    (h0 : path[i]? = some t) (jn : fn_joined [enc rl, .int s, enc rr] = some (enc j)) (lo : lo_ rr = some s) (lr : live rr) (oj : Ok j) (lj : live j) (big : ¬ (if lvl j = 0 then (4 : Int) else 5) < sz j)
    (wc : fn_without_child [enc t.r, .int n] = some (enc r')) (or' : Ok r') (lr' : live r') (nc : ¬ (i = 0 ∧ sz r' = 1)) (G : Gv R fr [sl.p, sr.p]) (hne : sl.p ≠ sr.p) :
    fn_Draft_unite_pair (dr path sibs R fr) [.int ((i + 1 : Nat) : Int), .int n, .tup [encS sl, enc rl], .tup [encS sr, enc rr]] = some (.tup [.str "up", enc r'], dr path sibs (R ++ [tr sr (.free sr.p)] ++ [tr sl j]) fr) := by
  have px := path_ix (sibs := sibs) h0
  have e0 : ((i + 1 : Nat) : Int) - 1 = (i : Int) := by omega
  obtain ⟨g1, g2⟩ := G.new sr.p (by simp)
  obtain ⟨g3, g4⟩ := G.new sl.p (by simp)
  have len := G.len
  have szj := size_of_enc oj lj
  have moj := most_of_enc oj lj
  have szr := size_of_enc or' lr'
  have bj := bounds_of_enc lr
  rw [lo, bd_some] at bj
  have gv := give_ok (path := path) (sibs := sibs) (R := R) (fr := fr) (p := sr.p) (a := sr.a) (x := enc sr.r) (y := .int sr.ck) (old := sr.r) (new := .free sr.p) g1 g2 (by omega)
  have gv2 := give_ok (path := path) (sibs := sibs) (R := R ++ [tr sr (.free sr.p)]) (fr := fr) (p := sl.p) (a := sl.a) (x := enc sl.r) (y := .int sl.ck) (old := sl.r) (new := j) g3 (fun t ht => by
    rcases List.mem_append.mp ht with ht | ht
    · exact g4 t ht
    · cases List.mem_singleton.mp ht
      exact fun e => hne e.symm) (by simp; omega)
  have gv : fn_Draft_give (dr path sibs R fr) [.tup [.int sr.p, .int sr.a, enc sr.r, .int sr.ck], .tup [.str "free", .int sr.p]] = some (.non, dr path sibs (R ++ [tr sr (.free sr.p)]) fr) := gv
  have gv2 : fn_Draft_give (dr path sibs (R ++ [tr sr (.free sr.p)]) fr) [.tup [.int sl.p, .int sl.a, enc sl.r, .int sl.ck], enc j] = some (.non, dr path sibs (R ++ [tr sr (.free sr.p)] ++ [tr sl j]) fr) := gv2
  have hb := decide_eq_false big
  have hc : decide ((((i + 1 : Nat) : Int) = 1)) = false ∨ (decide ((((i + 1 : Nat) : Int) = 1)) = true ∧ decide ((sz r' : Int) = 1) = false) := by
    by_cases q : i = 0
    · exact .inr ⟨decide_eq_true (by omega), decide_eq_false (by omega)⟩
    · exact .inl (decide_eq_false (by omega))
  generalize enc rl = erl at *
  generalize enc rr = err at *
  unfold fn_Draft_unite_pair g_Draft_unite_pair
  clear g1 g2 g3 g4 G len h0 oj lj big lr lo hne nc or' lr'
  walk_at "ev"
  simp only [e0, px, j_b2]
  walk_at "ev"
  rw [bj]
  walk_at "ev"
  rw [jn]
  walk_at "ev"
  rw [szj, moj]
  walk_at "ev"
  rw [hb]
  walk_at "ev"
  rw [wc]
  walk_at "ev"
  rw [gv]
  walk_at "ev"
  rcases hc with hc | ⟨hc, hd⟩
  · rw [hc]
    walk_at "ev"
    rw [gv2]
    walk_at "ev"
  · rw [hc]
    walk_at "ev"
    rw [szr]
    walk_at "ev"
    rw [hd]
    walk_at "ev"
    rw [gv2]
    walk_at "ev"
theorem pair_root {path sibs : List Step} {R : List Tr} {fr : Nat} {t sl sr : Step} {rl rr j r' : Rc} {s n : Int}
    (h0 : path[0]? = some t) (jn : fn_joined [enc rl, .int s, enc rr] = some (enc j)) (lo : lo_ rr = some s) (lr : live rr) (oj : Ok j) (lj : live j) (big : ¬ (if lvl j = 0 then (4 : Int) else 5) < sz j)
    (wc : fn_without_child [enc t.r, .int n] = some (enc r')) (or' : Ok r') (lr' : live r') (nc : sz r' = 1) (G : Gv R fr [sl.p, sr.p, t.p]) (hne : sl.p ≠ sr.p) (hne1 : sl.p ≠ t.p) (hne2 : sr.p ≠ t.p) :
    fn_Draft_unite_pair (dr path sibs R fr) [.int ((0 + 1 : Nat) : Int), .int n, .tup [encS sl, enc rl], .tup [encS sr, enc rr]] = some (.tup [.str "done", .non], dr path sibs (R ++ [tr sr (.free sr.p)] ++ [tr sl (.free sl.p)] ++ [tr t j]) fr) := by
  have px : ∀ R fr, dIx (dr path sibs R fr).path (.int 0) = some (encS t) := path_ix (sibs := sibs) h0
  obtain ⟨g1, g2⟩ := G.new sr.p (by simp)
  obtain ⟨g3, g4⟩ := G.new sl.p (by simp)
  obtain ⟨g5, g6⟩ := G.new t.p (by simp)
  have len := G.len
  have szj := size_of_enc oj lj
  have moj := most_of_enc oj lj
  have szr := size_of_enc or' lr'
  have bj := bounds_of_enc lr
  rw [lo, bd_some] at bj
  have gv := give_ok (path := path) (sibs := sibs) (R := R) (fr := fr) (p := sr.p) (a := sr.a) (x := enc sr.r) (y := .int sr.ck) (old := sr.r) (new := .free sr.p) g1 g2 (by omega)
  have gv2 := give_ok (path := path) (sibs := sibs) (R := R ++ [tr sr (.free sr.p)]) (fr := fr) (p := sl.p) (a := sl.a) (x := enc sl.r) (y := .int sl.ck) (old := sl.r) (new := .free sl.p) g3 (fun t ht => by
    rcases List.mem_append.mp ht with ht | ht
    · exact g4 t ht
    · cases List.mem_singleton.mp ht
      exact fun e => hne e.symm) (by simp; omega)
  have gv3 := give_ok (path := path) (sibs := sibs) (R := R ++ [tr sr (.free sr.p)] ++ [tr sl (.free sl.p)]) (fr := fr) (p := t.p) (a := t.a) (x := enc t.r) (y := .int t.ck) (old := t.r) (new := j) g5 (fun t ht => by
    rw [List.mem_append, List.mem_append, List.mem_singleton, List.mem_singleton] at ht
    rcases ht with (ht | rfl) | rfl
    · exact g6 t ht
    · exact hne2
    · exact hne1) (by simp; omega)
  have gv : fn_Draft_give (dr path sibs R fr) [.tup [.int sr.p, .int sr.a, enc sr.r, .int sr.ck], .tup [.str "free", .int sr.p]] = some (.non, dr path sibs (R ++ [tr sr (.free sr.p)]) fr) := gv
  have gv2 : fn_Draft_give (dr path sibs (R ++ [tr sr (.free sr.p)]) fr) [.tup [.int sl.p, .int sl.a, enc sl.r, .int sl.ck], .tup [.str "free", .int sl.p]] = some (.non, dr path sibs (R ++ [tr sr (.free sr.p)] ++ [tr sl (.free sl.p)]) fr) := gv2
  have gv3 : fn_Draft_give (dr path sibs (R ++ [tr sr (.free sr.p)] ++ [tr sl (.free sl.p)]) fr) [.tup [.int t.p, .int t.a, enc t.r, .int t.ck], enc j] = some (.non, dr path sibs (R ++ [tr sr (.free sr.p)] ++ [tr sl (.free sl.p)] ++ [tr t j]) fr) := gv3
  have hb := decide_eq_false big
  have hd : decide ((sz r' : Int) = 1) = true := decide_eq_true (by omega)
  have h01 : ((0 + 1 : Nat) : Int) = 1 := rfl
  generalize enc rl = erl at *
  generalize enc rr = err at *
  unfold fn_Draft_unite_pair g_Draft_unite_pair
  clear g1 g2 g3 g4 g5 g6 G len h0 oj lj big lr lo hne hne1 hne2 nc or' lr'
  rw [h01]
  walk_at "ev"
  rw [show (1 : Int) - 1 = 0 from rfl]
  simp only [px, j_b2]
  walk_at "ev"
  rw [bj]
  walk_at "ev"
  rw [jn]
  walk_at "ev"
  rw [szj, moj]
  walk_at "ev"
  rw [hb]
  walk_at "ev"
  rw [wc]
  walk_at "ev"
  rw [gv]
  walk_at "ev"
  rw [szr]
  walk_at "ev"
  rw [hd]
  walk_at "ev"
  rw [gv2]
  walk_at "ev"
  simp only [px, j_b2]
  walk_at "ev"
  rw [gv3]
  walk_at "ev"
end K32
end
section
set_option Elab.async false
set_option linter.all false
set_option maxRecDepth 100000
set_option maxHeartbeats 4000000
/-! unite, settle -/
namespace K32
open PySem PySem.Spec PyProof.Rows L2
local macro_rules | `(tactic| walk_at "ev") => `(tactic| simp only [ev_f2, ev_f1, ev_fC, ev_v0, ev_vs, ev_c0, ev_c1, ev_c2, ev_cs, ev_call, ev_all0, ev_all1, ev_tup, ev_lst, ev_T, ev_andT, ev_orT, ev_notT, ev_and, ev_or, ev_not, ev_if, ev_seq, ev_nx, ev_bk, ev_no, ev_set, ev_M, ev_ret, ev_drop, ev_un, ev_ns1, ev_ns0, ev_sl, ev_o0, ev_o1, ev_neg, ev_ch, ev_fz0, ev_fz1, ev_fz2, ev_fz3, ev_fz4, ev_fz5, ev_st0, ev_sts, fn_0, fn_1, fn_2, fn_3, fn_4, fn_5,
  j_b1, j_b2, j_bL, j_cL, j_mD, j_bT, j_andT, j_andF, j_orF, j_orT, j_not, j_bl, j_aDT, j_aDF, j_oDF, j_oDT, j_ifT, j_ifF, j_seqN, j_seqR, j_seqB, j_set, j_pM, j_ret, j_drop, j_un, j_sl, j_some, j_chT, j_chF, j_chP, j_endR, j_endN, j_nones0, j_nonesS, ix0, ix1, ix2, ix3, ix4, ix5,
  d_lt, d_le, d_gt, d_ge, d_addI, d_sub, d_lenL, d_eqI, d_eqS, d_eqNI, d_eqIN, d_eqNN, d_neI, d_neS, d_neNI, d_neIN, d_neNN, d_isNN, d_isNI, d_isNB, d_isNT, d_isND, d_notNN, d_notNI, d_notNT, d_notND, d_slT, d_neg, d_tupT, d_tupL, d_listL, d_dict, d_intI, d_intB,
  List.length_cons, List.length_nil, Nat.reduceAdd, Nat.reduceSub, if_true, if_false, reduceIte, Bool.not_true, Bool.not_false, decide_true, decide_false, Bool.false_eq_true, tI_len, ev_for, ev_r1, ev_r2, ev_r3, ev_iT, ev_iL, ev_lc, ev_yes, j_for, j_iT, j_iTI, j_iL, isi_tup, isi_tI, isi_int, isi_ib, isi_non, dtup_tI, cut51, cut61, cut62, cut605, cut513, cut624, ixm5, ixm6, d_len2, d_len3, d_len4, d_len5, d_len6, s_ll, s_il, s_ii, s_fl, s_fi, s_li, s_ff, s_lf, s_if, eq_self, at_0, at_s, ev_putR, ev_putA, ev_fresh, ev_fld, ev_meth, ev_aM0, ev_aM1, ev_tupM, ev_make, j_fresh, j_fld, j_meth, j_mO, j_aM1, j_aM2, j_tM2, j_make, j_endMR, j_endMN, fnM_0, fnM_1, fnM_2, fnM_4, dr_fr, encS_def, eq_bds, ne_bds, Int.reduceLT, Int.reduceLE, Int.reduceEq, Int.reduceNeg])
local macro_rules | `(tactic| walk_at "evh") => `(tactic| simp only [*, ev_f2, ev_f1, ev_fC, ev_v0, ev_vs, ev_c0, ev_c1, ev_c2, ev_cs, ev_call, ev_all0, ev_all1, ev_tup, ev_lst, ev_T, ev_andT, ev_orT, ev_notT, ev_and, ev_or, ev_not, ev_if, ev_seq, ev_nx, ev_bk, ev_no, ev_set, ev_M, ev_ret, ev_drop, ev_un, ev_ns1, ev_ns0, ev_sl, ev_o0, ev_o1, ev_neg, ev_ch, ev_fz0, ev_fz1, ev_fz2, ev_fz3, ev_fz4, ev_fz5, ev_st0, ev_sts, fn_0, fn_1, fn_2, fn_3, fn_4, fn_5,
  j_b1, j_b2, j_bL, j_cL, j_mD, j_bT, j_andT, j_andF, j_orF, j_orT, j_not, j_bl, j_aDT, j_aDF, j_oDF, j_oDT, j_ifT, j_ifF, j_seqN, j_seqR, j_seqB, j_set, j_pM, j_ret, j_drop, j_un, j_sl, j_some, j_chT, j_chF, j_chP, j_endR, j_endN, j_nones0, j_nonesS, ix0, ix1, ix2, ix3, ix4, ix5,
  d_lt, d_le, d_gt, d_ge, d_addI, d_sub, d_lenL, d_eqI, d_eqS, d_eqNI, d_eqIN, d_eqNN, d_neI, d_neS, d_neNI, d_neIN, d_neNN, d_isNN, d_isNI, d_isNB, d_isNT, d_isND, d_notNN, d_notNI, d_notNT, d_notND, d_slT, d_neg, d_tupT, d_tupL, d_listL, d_dict, d_intI, d_intB,
  List.length_cons, List.length_nil, Nat.reduceAdd, Nat.reduceSub, if_true, if_false, reduceIte, Bool.not_true, Bool.not_false, decide_true, decide_false, Bool.false_eq_true, tI_len, ev_for, ev_r1, ev_r2, ev_r3, ev_iT, ev_iL, ev_lc, ev_yes, j_for, j_iT, j_iTI, j_iL, isi_tup, isi_tI, isi_int, isi_ib, isi_non, dtup_tI, cut51, cut61, cut62, cut605, cut513, cut624, ixm5, ixm6, d_len2, d_len3, d_len4, d_len5, d_len6, s_ll, s_il, s_ii, s_fl, s_fi, s_li, s_ff, s_lf, s_if, eq_self, at_0, at_s, ev_putR, ev_putA, ev_fresh, ev_fld, ev_meth, ev_aM0, ev_aM1, ev_tupM, ev_make, j_fresh, j_fld, j_meth, j_mO, j_aM1, j_aM2, j_tM2, j_make, j_endMR, j_endMN, fnM_0, fnM_1, fnM_2, fnM_4, dr_fr, encS_def, eq_bds, ne_bds, Int.reduceLT, Int.reduceLE, Int.reduceEq, Int.reduceNeg])

theorem sib_no {path sibs : List Step} {R : List Tr} {fr : Nat} {q : Int} (h : dLook (sibsT sibs) q = none) : dNin (.int q) (dr path sibs R fr).sibs = some (.bl true) := by
  show (some (dLook (sibsT sibs) q).isSome).map (fun k => D.bl (!k)) = _
  rw [h]
  rfl
theorem sib_yes {path sibs : List Step} {R : List Tr} {fr : Nat} {q : Int} {d : D} (h : dLook (sibsT sibs) q = some d) : dNin (.int q) (dr path sibs R fr).sibs = some (.bl false) := by
  show (some (dLook (sibsT sibs) q).isSome).map (fun k => D.bl (!k)) = _
  rw [h]
  rfl
theorem sib_ix {path sibs : List Step} {R : List Tr} {fr : Nat} {q : Int} {d : D} (h : dLook (sibsT sibs) q = some d) : dIx (dr path sibs R fr).sibs (.int q) = some d := h
structure Uni (path sibs : List Step) (R : List Tr) (fr i : Nat) (s t : Step) (j o q : Int) : Prop where
  h0 : path[i]? = some t
  h1 : path[i + 1]? = some s
  hp : fn_Draft_place_in_parent (dr path sibs R fr) [.int ((i + 1 : Nat) : Int)] = some (.int j, dr path sibs R fr)
  ps : ∃ lv lo hi ks ps, t.r = .inner lv lo hi ks ps ∧ dIx (tI ps) (.int o) = some (.int q)
  ho : o = if j = 0 then 1 else j - 1
theorem unite_read {path sibs : List Step} {R : List Tr} {fr i : Nat} {s t : Step} {j o q : Int} {r : Rc} (U : Uni path sibs R fr i s t j o q) (no : dLook (sibsT sibs) q = none) :
    fn_Draft_unite (dr path sibs R fr) [.int ((i + 1 : Nat) : Int), enc r] = some (.tup [.str "read", .int q], dr path sibs R fr) := by
  have px := path_ix (sibs := sibs) U.h0
  have e0 : ((i + 1 : Nat) : Int) - 1 = (i : Int) := by omega
  have hp := U.hp
  have ho := U.ho
  obtain ⟨lv, lo, hi, ks, ps, et, eq⟩ := U.ps
  have hn := sib_no (path := path) (R := R) (fr := fr) no
  generalize enc r = er at *
  unfold fn_Draft_unite g_Draft_unite
  walk_at "ev"
  rw [hp]
  walk_at "ev"
  simp only [e0, px, j_b2]
  walk_at "ev"
  by_cases q0 : j = 0
  · subst q0
    rw [if_pos rfl] at ho
    subst ho
    walk_at "ev"
    simp only [et, enc_inner]
    walk_at "ev"
    rw [eq]
    walk_at "ev"
    rw [hn]
    walk_at "ev"
  · rw [if_neg q0] at ho
    subst ho
    rw [decide_eq_false q0]
    walk_at "ev"
    simp only [et, enc_inner]
    walk_at "ev"
    rw [eq]
    walk_at "ev"
    rw [hn]
    walk_at "ev"
theorem unite_go {path sibs : List Step} {R : List Tr} {fr i : Nat} {s t sb : Step} {j o q : Int} {r : Rc} {out : D × Dr} (U : Uni path sibs R fr i s t j o q) (yes : dLook (sibsT sibs) q = some (encS sb)) (lv : lvl sb.r = lvl r) (lb : live sb.r)
    (cb : fn_child_bounds [enc t.r, .int o] = some (.tup [bd (lo_ sb.r), bd (hi_ sb.r)]))
    (hout : (o < j ∧ fn_Draft_unite_pair (dr path sibs R fr) [.int ((i + 1 : Nat) : Int), .int j, .tup [encS sb, enc sb.r], .tup [encS s, enc r]] = some out) ∨ (¬ o < j ∧ fn_Draft_unite_pair (dr path sibs R fr) [.int ((i + 1 : Nat) : Int), .int o, .tup [encS s, enc r], .tup [encS sb, enc sb.r]] = some out)) :
    fn_Draft_unite (dr path sibs R fr) [.int ((i + 1 : Nat) : Int), enc r] = some out := by
  have px := path_ix (sibs := sibs) U.h0
  have px1 := path_ix (sibs := sibs) U.h1
  have e0 : ((i + 1 : Nat) : Int) - 1 = (i : Int) := by omega
  have hp := U.hp
  have ho := U.ho
  obtain ⟨lv', lo, hi, ks, ps, et, eq⟩ := U.ps
  have hn := sib_yes (path := path) (R := R) (fr := fr) yes
  have hs := sib_ix (path := path) (R := R) (fr := fr) yes
  have l1 := level_of_enc sb.r
  have l2 := level_of_enc r
  rw [lv] at l1
  have bb := bounds_of_enc lb
  obtain ⟨d, st⟩ := out
  have hh : ((((o = 1 ∧ j = 0) ∧ decide (o < j) = false) ∨ ((j ≠ 0 ∧ o = j - 1) ∧ decide (o < j) = true)) ∧ decide (lvl r = lvl r) = true) := ⟨by
    by_cases q0 : j = 0
    · rw [if_pos q0] at ho
      exact .inl ⟨⟨ho, q0⟩, decide_eq_false (by omega)⟩
    · rw [if_neg q0] at ho
      exact .inr ⟨⟨q0, ho⟩, decide_eq_true (by omega)⟩, decide_eq_true rfl⟩
  generalize hE : enc r = er at *
  generalize hB : enc sb.r = eb at *
  rw [et, enc_inner] at cb
  unfold fn_Draft_unite g_Draft_unite
  clear U ho
  walk_at "ev"
  rw [hp]
  walk_at "ev"
  simp only [e0, px, j_b2]
  walk_at "ev"
  obtain ⟨hh, _⟩ := hh
  rcases hh with ⟨⟨rfl, rfl⟩, hc⟩ | ⟨⟨q0, rfl⟩, hc⟩
  · have hout : fn_Draft_unite_pair (dr path sibs R fr) [.int ((i + 1 : Nat) : Int), .int 1, .tup [encS s, er], .tup [encS sb, eb]] = some (d, st) := hout.elim (fun h => absurd h.1 (of_decide_eq_false hc)) (·.2)
    try walk_at "ev"
    simp only [et, enc_inner]
    try walk_at "ev"
    rw [eq]
    try walk_at "ev"
    rw [hn]
    try walk_at "ev"
    rw [hs]
    try walk_at "ev"
    simp only [hB, l1, l2]
    try walk_at "ev"
    rw [bb]
    try walk_at "ev"
    rw [cb]
    try walk_at "ev"
    simp only [px1, j_b2]
    try walk_at "ev"
    simp only [encS_def, hB] at hout ⊢
    rw [hout]
    try walk_at "ev"
  · have hout : fn_Draft_unite_pair (dr path sibs R fr) [.int ((i + 1 : Nat) : Int), .int j, .tup [encS sb, eb], .tup [encS s, er]] = some (d, st) := hout.elim (·.2) (fun h => absurd (of_decide_eq_true hc) h.1)
    rw [decide_eq_false q0]
    try walk_at "ev"
    simp only [et, enc_inner]
    try walk_at "ev"
    rw [eq]
    try walk_at "ev"
    rw [hn]
    try walk_at "ev"
    rw [hs]
    try walk_at "ev"
    simp only [hB, l1, l2]
    try walk_at "ev"
    rw [bb]
    try walk_at "ev"
    rw [cb]
    try walk_at "ev"
    simp only [px1, j_b2]
    try walk_at "ev"
    rw [hc]
    try walk_at "ev"
    simp only [encS_def, hB] at hout ⊢
    rw [hout]
    try walk_at "ev"
theorem settle_div {st st' : Dr} {i : Nat} {r : Rc} {d : D} (O : Ok r) (L : live r) (big : (if lvl r = 0 then (4 : Int) else 5) < sz r) (h : fn_Draft_divide st [.int (i : Int), enc r] = some (d, st')) :
    fn_Draft_settle st [.int (i : Int), enc r] = some (d, st') := by
  have s1 := size_of_enc O L
  have s2 := most_of_enc O L
  have hb := decide_eq_true big
  generalize enc r = er at *
  unfold fn_Draft_settle g_Draft_settle
  clear O L big
  walk_at "ev"
  rw [s1, s2]
  walk_at "ev"
  rw [hb]
  walk_at "ev"
  rw [h]
  walk_at "ev"
theorem settle_uni {st st' : Dr} {i : Nat} {r : Rc} {d : D} (O : Ok r) (L : live r) (big : ¬ (if lvl r = 0 then (4 : Int) else 5) < sz r) (hi : 0 < i) (sm : sz r < 2) (h : fn_Draft_unite st [.int (i : Int), enc r] = some (d, st')) :
    fn_Draft_settle st [.int (i : Int), enc r] = some (d, st') := by
  have s1 := size_of_enc O L
  have s2 := most_of_enc O L
  have hb := decide_eq_false big
  have hc : decide ((0 : Int) < (i : Int)) = true := decide_eq_true (by omega)
  have hd : decide ((sz r : Int) < 2) = true := decide_eq_true (by omega)
  generalize enc r = er at *
  unfold fn_Draft_settle g_Draft_settle
  clear O L big hi sm
  walk_at "ev"
  rw [s1, s2]
  walk_at "ev"
  rw [hb]
  walk_at "ev"
  rw [hc]
  walk_at "ev"
  rw [s1]
  walk_at "ev"
  rw [hd]
  walk_at "ev"
  rw [h]
  walk_at "ev"
theorem settle_done {path sibs : List Step} {R : List Tr} {fr i : Nat} {s : Step} {r : Rc} (h0 : path[i]? = some s) (O : Ok r) (L : live r) (big : ¬ (if lvl r = 0 then (4 : Int) else 5) < sz r) (hs : i = 0 ∨ 2 ≤ sz r) (G : Gv R fr [s.p]) :
    fn_Draft_settle (dr path sibs R fr) [.int (i : Int), enc r] = some (.tup [.str "done", .non], dr path sibs (R ++ [tr s r]) fr) := by
  have px := path_ix (sibs := sibs) h0
  have s1 := size_of_enc O L
  have s2 := most_of_enc O L
  have hb := decide_eq_false big
  have hc : decide ((0 : Int) < (i : Int)) = false ∨ (decide ((0 : Int) < (i : Int)) = true ∧ decide ((sz r : Int) < 2) = false) := by
    by_cases q : i = 0
    · exact .inl (decide_eq_false (by omega))
    · exact .inr ⟨decide_eq_true (by omega), decide_eq_false (by omega)⟩
  obtain ⟨g1, g2⟩ := G.new s.p (by simp)
  have len := G.len
  have gv := give_ok (path := path) (sibs := sibs) (R := R) (fr := fr) (p := s.p) (a := s.a) (x := enc s.r) (y := .int s.ck) (old := s.r) (new := r) g1 g2 (by omega)
  have gv : fn_Draft_give (dr path sibs R fr) [.tup [.int s.p, .int s.a, enc s.r, .int s.ck], enc r] = some (.non, dr path sibs (R ++ [tr s r]) fr) := gv
  generalize enc r = er at *
  unfold fn_Draft_settle g_Draft_settle
  clear O L big hs g1 g2 len G h0
  walk_at "ev"
  rw [s1, s2]
  walk_at "ev"
  rw [hb]
  walk_at "ev"
  rcases hc with hc | ⟨hc, hd⟩
  · rw [hc]
    walk_at "ev"
    simp only [px, j_b2]
    walk_at "ev"
    rw [gv]
    walk_at "ev"
  · rw [hc]
    walk_at "ev"
    rw [s1]
    walk_at "ev"
    rw [hd]
    walk_at "ev"
    simp only [px, j_b2]
    walk_at "ev"
    rw [gv]
    walk_at "ev"
end K32
end
section
set_option Elab.async false
set_option linter.all false
set_option maxRecDepth 100000
set_option maxHeartbeats 4000000
/-! the tree, what a plan keeps -/
namespace K32
open PySem PySem.Spec PyProof.Rows L2
abbrev Pg := Int × Int × Rc
def sm {α : Type} (f : α → Nat) (l : List α) : Nat := (l.map f).sum
theorem sm_nil {α : Type} {f : α → Nat} : sm f [] = 0 := rfl
theorem sm_cons {α : Type} {f : α → Nat} {x : α} {l : List α} : sm f (x :: l) = f x + sm f l := by simp [sm]
theorem sm_app {α : Type} {f : α → Nat} {x : α} {l : List α} : sm f (l ++ [x]) = sm f l + f x := by simp [sm]
theorem sm_count {α β : Type} [BEq β] [LawfulBEq β] {f : α → List β} {l : List α} {s : β} : (l.flatMap f).count s = sm (fun x => (f x).count s) l := by
  unfold sm
  rw [List.count_flatMap]
  rfl
def most (r : Rc) : Nat := if lvl r = 0 then 4 else 5
def Sized (p : Int) (r : Rc) : Prop := sz r ≤ most r ∧ ((p = 0 ∧ lvl r = 0) ∨ 2 ≤ sz r)
structure Exact (P : List Pg) : Prop where
  nd : (P.map (·.1)).Nodup
  rng : ∀ e ∈ P, 0 ≤ e.1 ∧ e.1 < 200
  root : ∃ a r, (0, a, r) ∈ P ∧ live r ∧ lo_ r = none ∧ hi_ r = none
  ok : ∀ e ∈ P, live e.2.2 → Ok e.2.2 ∧ Sized e.1 e.2.2
  bal : ∀ s, (P.flatMap fun e => kids e.2.2).count s = (P.flatMap fun e => off e.1 e.2.2).count s
theorem nd_eq {P : List Pg} (h : (P.map (·.1)).Nodup) {e e' : Pg} (h1 : e ∈ P) (h2 : e' ∈ P) (q : e.1 = e'.1) : e = e' := by
  induction P with
  | nil => cases h1
  | cons x P ih =>
    rw [List.map_cons, List.nodup_cons] at h
    rcases List.mem_cons.mp h1 with rfl | h3 <;> rcases List.mem_cons.mp h2 with rfl | h4
    · rfl
    · exact absurd (List.mem_map.mpr ⟨e', h4, q.symm⟩) h.1
    · exact absurd (List.mem_map.mpr ⟨e, h3, q⟩) h.1
    · exact ih h.2 h3 h4
theorem off_live {p : Int} {r : Rc} (hp : p ≠ 0) (h : live r) : off p r = [(p, lo_ r, hi_ r, lvl r)] := by
  unfold off
  rw [if_neg]
  rintro (h1 | h1)
  · exact hp h1
  · rw [h] at h1
    cases h1
theorem off_zero {r : Rc} : off 0 r = [] := by simp [off]
theorem off_free {p n : Int} : off p (.free n) = [] := by simp [off, isF]
theorem kids_free {n : Int} : kids (.free n) = [] := rfl
theorem its_free {n : Int} : its (.free n) = [] := rfl
theorem off_mem {p : Int} {r : Rc} {s : Slot} (h : s ∈ off p r) : p ≠ 0 ∧ live r ∧ s = (p, lo_ r, hi_ r, lvl r) := by
  unfold off at h
  split at h
  · cases h
  · rename_i q
    refine ⟨fun e => q (.inl e), ?_, List.mem_singleton.mp h⟩
    unfold live
    cases e : isF r with
    | false => rfl
    | true => exact absurd (.inr e) q
section
variable {P : List Pg} (X : Exact P)
include X
theorem Exact.child {e : Pg} (he : e ∈ P) {s : Slot} (hs : s ∈ kids e.2.2) : ∃ e' ∈ P, s = (e'.1, lo_ e'.2.2, hi_ e'.2.2, lvl e'.2.2) ∧ e'.1 ≠ 0 ∧ live e'.2.2 := by
  have h1 : s ∈ P.flatMap fun e => kids e.2.2 := List.mem_flatMap.mpr ⟨e, he, hs⟩
  have h2 : 0 < (P.flatMap fun e => off e.1 e.2.2).count s := by
    rw [← X.bal s]
    exact List.count_pos_iff.mpr h1
  obtain ⟨e', he', h3⟩ := List.mem_flatMap.mp (List.count_pos_iff.mp h2)
  obtain ⟨p1, p2, p3⟩ := off_mem h3
  exact ⟨e', he', p3, p1, p2⟩
theorem Exact.parent {e : Pg} (he : e ∈ P) (h0 : e.1 ≠ 0) (hl : live e.2.2) : ∃ e' ∈ P, (e.1, lo_ e.2.2, hi_ e.2.2, lvl e.2.2) ∈ kids e'.2.2 := by
  have h1 : (e.1, lo_ e.2.2, hi_ e.2.2, lvl e.2.2) ∈ P.flatMap fun e => off e.1 e.2.2 := List.mem_flatMap.mpr ⟨e, he, by rw [off_live h0 hl]; exact List.mem_singleton.mpr rfl⟩
  have h2 : 0 < (P.flatMap fun e => kids e.2.2).count (e.1, lo_ e.2.2, hi_ e.2.2, lvl e.2.2) := by
    rw [X.bal]
    exact List.count_pos_iff.mpr h1
  exact List.mem_flatMap.mp (List.count_pos_iff.mp h2)
theorem Exact.perm : (P.flatMap fun e => kids e.2.2).Perm (P.flatMap fun e => off e.1 e.2.2) := List.perm_iff_count.mpr X.bal
omit X in
theorem off_sub : ∀ P : List Pg, ((P.flatMap fun e => off e.1 e.2.2).map (·.1)).Sublist (P.map (·.1))
  | [] => List.Sublist.refl _
  | e :: P => by
    rw [List.flatMap_cons, List.map_append, List.map_cons]
    have ih := off_sub P
    unfold off
    split
    · exact ih.trans (List.sublist_cons_self _ _)
    · exact List.Sublist.cons_cons _ ih
theorem Exact.kidsNd : ((P.flatMap fun e => kids e.2.2).map (·.1)).Nodup := (X.perm.map _).nodup_iff.mpr (List.Sublist.nodup (off_sub P) X.nd)
omit X in
theorem sub_flat {α β : Type} {f : α → List β} : ∀ {l : List α} {x : α}, x ∈ l → (f x).Sublist (l.flatMap f)
  | y :: l, x, h => by
    rw [List.flatMap_cons]
    rcases List.mem_cons.mp h with rfl | h
    · exact List.sublist_append_left _ _
    · exact (sub_flat h).trans (List.sublist_append_right _ _)
theorem Exact.kidNd {e : Pg} (he : e ∈ P) : ((kids e.2.2).map (·.1)).Nodup := by
  refine List.Sublist.nodup (List.Sublist.map _ ?_) X.kidsNd
  exact sub_flat (f := fun e : Pg => kids e.2.2) he
end
theorem kidsF_pages {lv : Int} : ∀ {lo hi : Option Int} {ks ps : List Int}, ps.length = ks.length + 1 → (kidsF lv lo hi ks ps).map (·.1) = ps
  | lo, hi, [], [p], _ => rfl
  | lo, hi, k :: ks, p :: ps, h => by
    show p :: (kidsF lv (some k) hi ks ps).map (·.1) = _
    rw [kidsF_pages (by simpa using h)]
/-! what a plan keeps -/
def kN (s : Slot) (t : Tr) : Nat := (kids t.new).count s
def kO (s : Slot) (t : Tr) : Nat := (kids t.old).count s
def oN (s : Slot) (t : Tr) : Nat := (off t.p t.new).count s
def oO (s : Slot) (t : Tr) : Nat := (off t.p t.old).count s
def iN (x : Int × Int) (t : Tr) : Nat := (its t.new).count x
def iO (x : Int × Int) (t : Tr) : Nat := (its t.old).count x
structure Ctx (P : List Pg) (path sibs : List Step) : Prop where
  ex : Exact P
  mem : ∀ s ∈ path, (s.p, s.a, s.r) ∈ P ∧ live s.r
  zero : ∀ s, path[0]? = some s → s.p = 0
  link : ∀ i t s, path[i]? = some t → path[i + 1]? = some s → s.p ≠ 0 ∧ ∃ lv lo hi a b c d, t.r = .inner lv lo hi (a ++ b) (c ++ s.p :: d) ∧ a.length = c.length ∧ b.length = d.length ∧ lo_ s.r = endL lo a ∧ hi_ s.r = headR hi b ∧ lvl s.r = lv - 1
  sib : ∀ q d, dLook (sibsT sibs) q = some d → ∃ s : Step, d = encS s ∧ s.p = q ∧ (s.p, s.a, s.r) ∈ P
  short : path.length ≤ 20
  lv : ∀ (i : Nat) s, path[i]? = some s → lvl s.r = (path.length : Int) - 1 - i
structure Base (P : List Pg) (R : List Tr) (fr : Nat) : Prop where
  pg : ∀ t ∈ R, (t.p < 0 ∧ -(fr : Int) ≤ t.p ∧ t.old = .free 0) ∨ (0 ≤ t.p ∧ (t.p, t.a, t.old) ∈ P ∧ live t.old)
  nd : (R.map (·.p)).Nodup
  neg : (R.filter fun t => decide (t.p < 0)).map (·.p) = (List.range fr).map fun (i : Nat) => -((i : Int) + 1)
  sized : ∀ t ∈ R, live t.new → Ok t.new ∧ Sized t.p t.new
/-- a plan's outcome -/
structure Fin (P : List Pg) (r0 r1 : Rc) (lp : Int) (R : List Tr) (fr : Nat) : Prop extends Base P R fr where
  bal : ∀ s, sm (kN s) R + sm (oO s) R = sm (oN s) R + sm (kO s) R
  itm : ∀ x, sm (iN x) R + (its r0).count x = sm (iO x) R + (its r1).count x
  leaf : lp ∈ R.map (·.p)
  root : ∀ t ∈ R, t.p = 0 → live t.new ∧ lo_ t.new = none ∧ hi_ t.new = none
  len : R.length ≤ 90
structure Pend (P : List Pg) (r0 r1 : Rc) (lp : Int) (n i : Nat) (s : Step) (r : Rc) (R : List Tr) (fr : Nat) : Prop extends Base P R fr where
  ok : Ok r
  lr : live r
  lv : lvl r = lvl s.r
  lo : lo_ r = lo_ s.r
  hi : hi_ r = hi_ s.r
  size : sz r ≤ most r + 1 ∧ ((i = 0 ∧ lvl r = 0) ∨ 1 ≤ sz r) ∧ (i = 0 → lvl r = 0 ∨ 2 ≤ sz r)
  bal : ∀ x, sm (kN x) R + (kids r).count x + sm (oO x) R = sm (oN x) R + sm (kO x) R + (kids s.r).count x
  itm : ∀ x, sm (iN x) R + (its r).count x + (its r0).count x = sm (iO x) R + (its s.r).count x + (its r1).count x
  low : ∀ t ∈ R, 0 ≤ t.p → lvl t.old < lvl s.r
  leaf : lp = s.p ∨ lp ∈ R.map (·.p)
  len : R.length + 3 * i ≤ 3 * n
  nz : ∀ t ∈ R, t.p ≠ 0
theorem Base.gv {P : List Pg} {R : List Tr} {fr : Nat} (B : Base P R fr) {ps : List Int} (hl : R.length ≤ 100) (h : ∀ p ∈ ps, 0 ≤ p ∧ ∀ t ∈ R, t.p ≠ p) : Gv R fr ps :=
  ⟨fun t ht => (B.pg t ht).elim (·.2.1) fun q => by have := q.1; omega, hl, h⟩
theorem Base.give {P : List Pg} {R : List Tr} {fr : Nat} (B : Base P R fr) {s : Step} {r : Rc} (hm : (s.p, s.a, s.r) ∈ P) (hl : live s.r) (h0 : 0 ≤ s.p) (hn : ∀ t ∈ R, t.p ≠ s.p) (hs : live r → Ok r ∧ Sized s.p r) : Base P (R ++ [tr s r]) fr where
  pg := fun t ht => by
    rcases List.mem_append.mp ht with ht | ht
    · exact B.pg t ht
    · cases List.mem_singleton.mp ht
      exact .inr ⟨h0, hm, hl⟩
  nd := by
    rw [List.map_append, List.nodup_append]
    refine ⟨B.nd, by simp, fun a ha b hb => ?_⟩
    obtain ⟨t, ht, rfl⟩ := List.mem_map.mp ha
    simp only [List.map_cons, List.map_nil, List.mem_singleton] at hb
    subst hb
    exact hn t ht
  neg := by
    rw [List.filter_append, List.filter_cons_of_neg (by simp only [decide_eq_true_eq]; show ¬ s.p < 0; omega)]
    simpa using B.neg
  sized := fun t ht => by
    rcases List.mem_append.mp ht with ht | ht
    · exact B.sized t ht
    · cases List.mem_singleton.mp ht
      exact hs
theorem Base.add {P : List Pg} {R : List Tr} {fr : Nat} (B : Base P R fr) {r : Rc} (hs : live r → Ok r ∧ Sized (-((fr + 1 : Nat) : Int)) r) : Base P (R ++ [fresh fr r]) (fr + 1) where
  pg := fun t ht => by
    rcases List.mem_append.mp ht with ht | ht
    · exact (B.pg t ht).imp (fun ⟨a, b, c⟩ => ⟨a, by omega, c⟩) id
    · cases List.mem_singleton.mp ht
      refine .inl ⟨?_, ?_, rfl⟩
      · show -((fr + 1 : Nat) : Int) < 0
        omega
      · show -((fr + 1 : Nat) : Int) ≤ -((fr + 1 : Nat) : Int)
        omega
  nd := by
    rw [List.map_append, List.nodup_append]
    refine ⟨B.nd, by simp, fun a ha b hb => ?_⟩
    obtain ⟨t, ht, rfl⟩ := List.mem_map.mp ha
    simp only [List.map_cons, List.map_nil, List.mem_singleton] at hb
    subst hb
    show t.p ≠ -((fr + 1 : Nat) : Int)
    rcases B.pg t ht with ⟨_, h, _⟩ | ⟨h, _⟩ <;> omega
  neg := by
    rw [List.filter_append, List.filter_cons_of_pos (by simp only [decide_eq_true_eq]; show -((fr + 1 : Nat) : Int) < 0; omega), List.map_append, B.neg, List.range_succ, List.map_append]
    congr 1
  sized := fun t ht => by
    rcases List.mem_append.mp ht with ht | ht
    · exact B.sized t ht
    · cases List.mem_singleton.mp ht
      exact hs
theorem big_of {r : Rc} (l : live r) (h : sz r = most r + 1) (O : Ok r) : Big r := by
  cases r with
  | free n => cases l
  | leaf lo hi ks vs => exact h
  | inner lv lo hi ks ps =>
    have := (show OkI lv lo hi ks ps from O).lv
    have h : ps.length = (if lv = 0 then 4 else 5) + 1 := h
    rw [if_neg (by omega)] at h
    exact h
theorem most_eq {r r' : Rc} (h : lvl r = lvl r') : most r = most r' := by unfold most; rw [h]
theorem most_i {r : Rc} : (if lvl r = 0 then (4 : Int) else 5) = (most r : Nat) := by unfold most; split <;> rfl
theorem most_ge {r : Rc} : 4 ≤ most r := by unfold most; split <;> omega
end K32
end
section
set_option Elab.async false
set_option linter.all false
set_option maxRecDepth 100000
set_option maxHeartbeats 4000000
/-! settle keeps what a plan keeps -/
namespace K32
open PySem PySem.Spec PyProof.Rows L2
theorem off_congr {p : Int} {r r' : Rc} (l : live r) (l' : live r') (lo : lo_ r = lo_ r') (hi : hi_ r = hi_ r') (lv : lvl r = lvl r') : off p r = off p r' := by
  unfold off
  rw [show isF r = false from l, show isF r' = false from l', lo, hi, lv]
theorem Exact.root_eq {P : List Pg} (X : Exact P) {a : Int} {r : Rc} (h : (0, a, r) ∈ P) : live r ∧ lo_ r = none ∧ hi_ r = none := by
  obtain ⟨a', r', h', q1, q2, q3⟩ := X.root
  have := nd_eq X.nd h h' rfl
  cases this
  exact ⟨q1, q2, q3⟩
section
variable {P : List Pg} {path sibs : List Step} {R : List Tr} {fr n i : Nat} {s t sl sr : Step} {r r0 r1 rl rr : Rc} {lp : Int} {lv : Int} {lo hi : Option Int} {a b c d : List Int} {x : Int}
/-- two neighbours, one of them changed -/
structure Two (P : List Pg) (path : List Step) (R : List Tr) (fr n i : Nat) (t sl sr : Step) (rl rr r0 r1 : Rc) (lp lv : Int) (lo hi : Option Int) (a b c d : List Int) (x : Int) : Prop extends Base P R fr where
  ht : path[i]? = some t
  tr' : t.r = .inner lv lo hi (a ++ x :: b) (c ++ sl.p :: sr.p :: d)
  hac : a.length = c.length
  hbd : b.length = d.length
  ml : (sl.p, sl.a, sl.r) ∈ P
  mr : (sr.p, sr.a, sr.r) ∈ P
  ll : live sl.r
  lr : live sr.r
  zl : sl.p ≠ 0
  zr : sr.p ≠ 0
  ne : sl.p ≠ sr.p
  okl : Ok rl
  okr : Ok rr
  lrl : live rl
  lrr : live rr
  vl : lvl rl = lv - 1
  vr : lvl rr = lv - 1
  lol : lo_ rl = endL lo a
  hil : hi_ rl = some x
  lor : lo_ rr = some x
  hir : hi_ rr = headR hi b
  svl : lvl sl.r = lv - 1
  svr : lvl sr.r = lv - 1
  slol : lo_ sl.r = endL lo a
  shil : hi_ sl.r = some x
  slor : lo_ sr.r = some x
  shir : hi_ sr.r = headR hi b
  z1 : sz rl + sz rr ≤ most rl + 1
  z2 : 3 ≤ sz rl + sz rr
  bal : ∀ x, sm (kN x) R + (kids rl).count x + (kids rr).count x + sm (oO x) R = sm (oN x) R + sm (kO x) R + (kids sl.r).count x + (kids sr.r).count x
  itm : ∀ x, sm (iN x) R + (its rl).count x + (its rr).count x + (its r0).count x = sm (iO x) R + (its sl.r).count x + (its sr.r).count x + (its r1).count x
  low : ∀ t ∈ R, 0 ≤ t.p → lvl t.old < lv - 1
  leaf : lp = sl.p ∨ lp = sr.p ∨ lp ∈ R.map (·.p)
  len : R.length + 3 * (i + 1) ≤ 3 * n
  nz : ∀ t ∈ R, t.p ≠ 0
theorem fresh_from (B : Base P R fr) (nd : (P.map (·.1)).Nodup) (low : ∀ t ∈ R, 0 ≤ t.p → lvl t.old < lvl s.r) (hm : (s.p, s.a, s.r) ∈ P) (h0 : 0 ≤ s.p) : ∀ t ∈ R, t.p ≠ s.p := fun t ht e => by
  rcases B.pg t ht with ⟨h, _⟩ | ⟨h1, h2, _⟩
  · omega
  · have := nd_eq nd h2 hm e
    have e2 : t.old = s.r := congrArg (fun z : Pg => z.2.2) this
    have := low t ht h1
    rw [e2] at this
    omega
theorem sized_of {p : Int} {r : Rc} (h1 : sz r ≤ most r) (h2 : 2 ≤ sz r) : Sized p r := ⟨h1, .inr h2⟩
theorem cnt1 {α : Type} [BEq α] [LawfulBEq α] {x y z : α} : ([y, z] : List α).count x = ([y] : List α).count x + ([z] : List α).count x := List.count_append (l₁ := [y]) (l₂ := [z])
theorem pair_step (C : Ctx P path sibs) (hn : n + 1 = path.length) (T : Two P path R fr n i t sl sr rl rr r0 r1 lp lv lo hi a b c d x) :
    (∃ R' fr', fn_Draft_unite_pair (dr path sibs R fr) [.int ((i + 1 : Nat) : Int), .int ((a.length : Int) + 1), .tup [encS sl, enc rl], .tup [encS sr, enc rr]] = some (.tup [.str "done", .non], dr path sibs R' fr') ∧ Fin P r0 r1 lp R' fr') ∨
    (∃ r' R' fr', fn_Draft_unite_pair (dr path sibs R fr) [.int ((i + 1 : Nat) : Int), .int ((a.length : Int) + 1), .tup [encS sl, enc rl], .tup [encS sr, enc rr]] = some (.tup [.str "up", enc r'], dr path sibs R' fr') ∧ Pend P r0 r1 lp n i t r' R' fr') := by
  have X := C.ex
  have hshort := C.short
  obtain ⟨j, J⟩ := join_ok T.okl T.okr T.lrl T.lrr (T.vl.trans T.vr.symm) T.hil T.lor (by have := T.z1; have : most rl ≤ 5 := (by unfold most; split <;> omega); omega)
  have hmt := C.mem t (List.mem_of_getElem? T.ht)
  have okt := (X.ok _ hmt.1 hmt.2)
  have okt1 : OkI lv lo hi (a ++ x :: b) (c ++ sl.p :: sr.p :: d) := by have := okt.1; simp only [T.tr'] at this; exact this
  have lvt : lvl t.r = lv := by rw [T.tr']; rfl
  have lv1 := okt1.lv
  have szt : sz t.r = c.length + d.length + 2 := by rw [T.tr', sz_inner]; simp only [List.length_append, List.length_cons]; omega
  have szt2 : sz t.r ≤ 5 := by
    have := okt.2.1
    have e : most t.r = 5 := by unfold most; rw [lvt, if_neg (by omega)]
    simp only at this
    omega
  have rgl := (X.rng _ T.ml).1
  have rgr := (X.rng _ T.mr).1
  have rgt := (X.rng _ hmt.1).1
  simp only at rgl rgr rgt
  have fl := fresh_from (s := sl) T.toBase X.nd (fun t ht h => by rw [T.svl]; exact T.low t ht h) T.ml rgl
  have fr' := fresh_from (s := sr) T.toBase X.nd (fun t ht h => by rw [T.svr]; exact T.low t ht h) T.mr rgr
  have ft := fresh_from (s := t) T.toBase X.nd (fun t' ht h => by rw [lvt]; have := T.low t' ht h; omega) hmt.1 rgt
  have hlen := T.len
  have mj : most j = most rl := most_eq J.vr
  have netl : sl.p ≠ t.p := fun e => by
    have e2 : sl.r = t.r := congrArg (fun z : Pg => z.2.2) (nd_eq X.nd T.ml hmt.1 e)
    have := T.svl
    rw [e2, lvt] at this
    omega
  have netr : sr.p ≠ t.p := fun e => by
    have e2 : sr.r = t.r := congrArg (fun z : Pg => z.2.2) (nd_eq X.nd T.mr hmt.1 e)
    have := T.svr
    rw [e2, lvt] at this
    omega
  have Gv2 : Gv R fr [sl.p, sr.p] := T.toBase.gv (by omega) fun p hp => by
    simp only [List.mem_cons, List.not_mem_nil, or_false] at hp
    rcases hp with rfl | rfl
    · exact ⟨rgl, fl⟩
    · exact ⟨rgr, fr'⟩
  have ofl := off_live T.zl T.ll
  have ofr := off_live T.zr T.lr
  rw [T.svl, T.slol, T.shil] at ofl
  rw [T.svr, T.slor, T.shir] at ofr
  by_cases big : most j < sz j
  · -- redistribute
    obtain ⟨f, g, sep, K⟩ := cut_ok J.ok (big_of J.lr (by have := T.z1; have := J.sz; omega) J.ok)
    have g1 : gtLo (endL lo a) sep := by rw [← T.lol, ← J.lo]; exact K.gt
    have g2 : ltHi (headR hi b) sep := by rw [← T.hir, ← J.hi]; exact K.lt
    obtain ⟨r', e1, Q⟩ := par_sep (n := (a.length : Int) + 1) okt1 T.hac rfl g1 g2
    rw [← T.tr'] at e1 Q
    refine .inr ⟨r', _, _, pair_cut T.ht J.ev T.lor T.lrr J.ok J.lr (by rw [most_i]; omega) K.ev e1 Gv2 T.ne, ?_⟩
    have mf : most f = most j := most_eq K.vf
    have mg : most g = most j := most_eq K.vg
    have m4 := @most_ge j
    have Sf : Ok f ∧ Sized sl.p f := ⟨K.okf, sized_of (by have := K.sf; omega) (by have := K.sf; omega)⟩
    have Sg : Ok g ∧ Sized sr.p g := ⟨K.okg, sized_of (by have := K.sg2; omega) K.sg1⟩
    have B1 := T.toBase.give (s := sl) (r := f) T.ml T.ll rgl fl (fun _ => Sf)
    have B2 := B1.give (s := sr) (r := g) T.mr T.lr rgr (fun t ht => by
      rcases List.mem_append.mp ht with ht | ht
      · exact fr' t ht
      · cases List.mem_singleton.mp ht
        exact T.ne) (fun _ => Sg)
    have szr : sz r' = sz t.r := by have := Q.sz; omega
    have ofl' := off_live T.zl K.lf
    have ofr' := off_live T.zr K.lg
    rw [K.vf, J.vr, T.vl, K.lof, J.lo, T.lol, K.hif] at ofl'
    rw [K.vg, J.vr, T.vl, K.log, K.hig, J.hi, T.hir] at ofr'
    have mr' : most r' = 5 := by unfold most; rw [Q.lv, lvt, if_neg (by omega)]
    refine { B2 with ok := Q.ok, lr := ?_, lv := Q.lv, lo := Q.lo, hi := Q.hi, size := ⟨by omega, .inr (by omega), fun _ => .inr (by omega)⟩, bal := fun y => ?_, itm := fun y => ?_, low := fun t' ht' h => ?_, leaf := ?_, len := ?_, nz := fun t' ht' => ?_ }
    · obtain ⟨_, _, _, _, _, rfl⟩ := Q.inn
      rfl
    · have h1 := T.bal y
      have h2 := Q.kd y
      have h3 : (kids j).count y = _ := congrArg (List.count y) K.kd
      have h4 : (kids j).count y = _ := congrArg (List.count y) J.kd
      rw [List.count_append] at h3 h4
      rw [cnt1, cnt1] at h2
      simp only [sm_app, kN, kO, oN, oO, tr, ofl, ofr, ofl', ofr']
      omega
    · have h1 := T.itm y
      have h3 : (its j).count y = _ := congrArg (List.count y) K.it
      have h4 : (its j).count y = _ := congrArg (List.count y) J.it
      rw [List.count_append] at h3 h4
      have h5 : (its r').count y = 0 := by obtain ⟨_, _, _, _, _, rfl⟩ := Q.inn; rfl
      have h6 : (its t.r).count y = 0 := by rw [T.tr']; rfl
      simp only [sm_app, iN, iO, tr]
      omega
    · rw [lvt]
      rw [List.mem_append, List.mem_append, List.mem_singleton, List.mem_singleton] at ht'
      rcases ht' with (ht' | rfl) | rfl
      · have := T.low t' ht' h
        omega
      · show lvl sl.r < lv
        rw [T.svl]
        omega
      · show lvl sr.r < lv
        rw [T.svr]
        omega
    · right
      simp only [List.map_append, List.mem_append, List.map_cons, List.map_nil, List.mem_singleton]
      rcases T.leaf with e | e | e
      · exact .inl (.inr e)
      · exact .inr e
      · exact .inl (.inl e)
    · simp only [List.length_append, List.length_cons, List.length_nil]
      omega
    · rw [List.mem_append, List.mem_append, List.mem_singleton, List.mem_singleton] at ht'
      rcases ht' with (ht' | rfl) | rfl
      · exact T.nz t' ht'
      · exact T.zl
      · exact T.zr
  · -- join
    obtain ⟨r', e1, Q⟩ := par_del (n := (a.length : Int) + 1) okt1 T.hac rfl
    rw [← T.tr'] at e1 Q
    have szr : sz r' + 1 = sz t.r := by have := Q.sz; omega
    have lr' : live r' := by obtain ⟨_, _, _, _, _, rfl⟩ := Q.inn; rfl
    have mr' : most r' = 5 := by unfold most; rw [Q.lv, lvt, if_neg (by omega)]
    have Sj : ∀ p, Ok j ∧ Sized p j := fun p => ⟨J.ok, sized_of (by omega) (by have := J.sz; have := T.z2; omega)⟩
    have nof : ∀ p n, live (.free n) → Ok (.free n) ∧ Sized p (.free n) := fun p n h => by cases h
    have B1 := T.toBase.give (s := sr) (r := .free sr.p) T.mr T.lr rgr fr' (nof _ _)
    have fl1 : ∀ t' ∈ R ++ [tr sr (.free sr.p)], t'.p ≠ sl.p := fun t' ht => by
      rcases List.mem_append.mp ht with ht | ht
      · exact fl t' ht
      · cases List.mem_singleton.mp ht
        exact fun e => T.ne e.symm
    by_cases rt : i = 0 ∧ sz r' = 1
    · obtain ⟨i0, sz1⟩ := rt
      subst i0
      have z0 := C.zero t T.ht
      have B2 := B1.give (s := sl) (r := .free sl.p) T.ml T.ll rgl fl1 (nof _ _)
      have B3 := B2.give (s := t) (r := j) hmt.1 hmt.2 rgt (fun t' ht => by
        rw [List.mem_append, List.mem_append, List.mem_singleton, List.mem_singleton] at ht
        rcases ht with (ht | rfl) | rfl
        · exact ft t' ht
        · exact netr
        · exact netl) (fun _ => Sj _)
      have Gv3 : Gv R fr [sl.p, sr.p, t.p] := T.toBase.gv (by omega) fun p hp => by
        simp only [List.mem_cons, List.not_mem_nil, or_false] at hp
        rcases hp with rfl | rfl | rfl
        · exact ⟨rgl, fl⟩
        · exact ⟨rgr, fr'⟩
        · exact ⟨rgt, ft⟩
      have hrt := hmt.1
      rw [z0] at hrt
      obtain ⟨_, q2, q3⟩ := X.root_eq hrt
      have hc : c = [] := List.eq_nil_of_length_eq_zero (by omega)
      have hd : d = [] := List.eq_nil_of_length_eq_zero (by omega)
      have ha : a = [] := List.eq_nil_of_length_eq_zero (by have := T.hac; rw [hc] at this; simpa using this)
      have hb : b = [] := List.eq_nil_of_length_eq_zero (by have := T.hbd; rw [hd] at this; simpa using this)
      have lo0 : lo = none := by rw [T.tr'] at q2; exact q2
      have hi0 : hi = none := by rw [T.tr'] at q3; exact q3
      refine .inl ⟨_, _, pair_root T.ht J.ev T.lor T.lrr J.ok J.lr (by rw [most_i]; omega) e1 Q.ok lr' sz1 Gv3 T.ne netl netr, ?_⟩
      refine { B3 with bal := fun y => ?_, itm := fun y => ?_, leaf := ?_, root := fun t' ht' h => ?_, len := ?_ }
      · have h1 := T.bal y
        have h4 : (kids j).count y = _ := congrArg (List.count y) J.kd
        rw [List.count_append] at h4
        have h5 : (kids t.r).count y = (off sl.p sl.r).count y + (off sr.p sr.r).count y := by
          rw [T.tr', ofl, ofr, ha, hb, hc, hd]
          exact cnt1
        simp only [sm_app, kN, kO, oN, oO, tr, off_free, kids_free, List.count_nil, z0, off_zero]
        omega
      · have h1 := T.itm y
        have h4 : (its j).count y = _ := congrArg (List.count y) J.it
        rw [List.count_append] at h4
        have h6 : (its t.r).count y = 0 := by rw [T.tr']; rfl
        simp only [sm_app, iN, iO, tr, its_free, List.count_nil]
        omega
      · simp only [List.map_append, List.mem_append, List.map_cons, List.map_nil, List.mem_singleton]
        rcases T.leaf with e | e | e
        · exact .inl (.inr e)
        · exact .inl (.inl (.inr e))
        · exact .inl (.inl (.inl e))
      · rw [List.mem_append, List.mem_append, List.mem_append, List.mem_singleton, List.mem_singleton, List.mem_singleton] at ht'
        rcases ht' with ((ht' | rfl) | rfl) | rfl
        · exact absurd h (T.nz t' ht')
        · exact absurd h T.zr
        · exact absurd h T.zl
        · refine ⟨J.lr, ?_, ?_⟩
          · show lo_ j = none
            rw [J.lo, T.lol, ha, lo0]
            rfl
          · show hi_ j = none
            rw [J.hi, T.hir, hb, hi0]
            rfl
      · simp only [List.length_append, List.length_cons, List.length_nil]
        omega
    · refine .inr ⟨r', _, _, pair_join T.ht J.ev T.lor T.lrr J.ok J.lr (by rw [most_i]; omega) e1 Q.ok lr' rt Gv2 T.ne, ?_⟩
      have B2 := B1.give (s := sl) (r := j) T.ml T.ll rgl fl1 (fun _ => Sj _)
      have ofj := off_live T.zl J.lr
      rw [J.vr, T.vl, J.lo, T.lol, J.hi, T.hir] at ofj
      refine { B2 with ok := Q.ok, lr := lr', lv := Q.lv, lo := Q.lo, hi := Q.hi, size := ⟨by omega, .inr (by omega), fun h => .inr (by omega)⟩, bal := fun y => ?_, itm := fun y => ?_, low := fun t' ht' h => ?_, leaf := ?_, len := ?_, nz := fun t' ht' => ?_ }
      · have h1 := T.bal y
        have h2 := Q.kd y
        have h4 : (kids j).count y = _ := congrArg (List.count y) J.kd
        rw [List.count_append] at h4
        rw [cnt1] at h2
        simp only [sm_app, kN, kO, oN, oO, tr, ofl, ofr, ofj, off_free, kids_free, List.count_nil]
        omega
      · have h1 := T.itm y
        have h4 : (its j).count y = _ := congrArg (List.count y) J.it
        rw [List.count_append] at h4
        have h5 : (its r').count y = 0 := by obtain ⟨_, _, _, _, _, rfl⟩ := Q.inn; rfl
        have h6 : (its t.r).count y = 0 := by rw [T.tr']; rfl
        simp only [sm_app, iN, iO, tr, its_free, List.count_nil]
        omega
      · rw [lvt]
        rw [List.mem_append, List.mem_append, List.mem_singleton, List.mem_singleton] at ht'
        rcases ht' with (ht' | rfl) | rfl
        · have := T.low t' ht' h
          omega
        · show lvl sr.r < lv
          rw [T.svr]
          omega
        · show lvl sl.r < lv
          rw [T.svl]
          omega
      · right
        simp only [List.map_append, List.mem_append, List.map_cons, List.map_nil, List.mem_singleton]
        rcases T.leaf with e | e | e
        · exact .inr e
        · exact .inl (.inr e)
        · exact .inl (.inl e)
      · simp only [List.length_append, List.length_cons, List.length_nil]
        omega
      · rw [List.mem_append, List.mem_append, List.mem_singleton, List.mem_singleton] at ht'
        rcases ht' with (ht' | rfl) | rfl
        · exact T.nz t' ht'
        · exact T.zr
        · exact T.zl
end
end K32
end
section
set_option Elab.async false
set_option linter.all false
set_option maxRecDepth 100000
set_option maxHeartbeats 400000
/-! one turn of the plan -/
namespace K32
open PySem PySem.Spec PyProof.Rows L2
def spQ : Rc → Int → Int
  | .inner _ _ _ _ ps, p => (ps[if ps.idxOf p = 0 then 1 else ps.idxOf p - 1]?).getD 0
  | _, _ => 0
theorem spQ_inner {lv lo hi ks ps} {p : Int} : spQ (.inner lv lo hi ks ps) p = (ps[if ps.idxOf p = 0 then 1 else ps.idxOf p - 1]?).getD 0 := rfl
def sp (path : List Step) (i : Nat) : Int := match path[i - 1]?, path[i]? with
  | some t, some s => spQ t.r s.p
  | _, _ => 0
theorem idx_mid {p : Int} {d : List Int} : ∀ {c : List Int}, (∀ x ∈ c, x ≠ p) → (c ++ p :: d).idxOf p = c.length
  | [], _ => by simp
  | x :: c, h => by
    have h1 : x ≠ p := h x List.mem_cons_self
    rw [List.cons_append, List.idxOf_cons, show (x == p) = false by simpa using h1, cond_false, idx_mid fun y hy => h y (List.mem_cons_of_mem _ hy)]
    rfl
theorem sp_eq {path : List Step} {i : Nat} {s t : Step} (h0 : path[i]? = some t) (h1 : path[i + 1]? = some s) : sp path (i + 1) = spQ t.r s.p := by
  unfold sp
  rw [show i + 1 - 1 = i by omega, h0, h1]
theorem endL_snoc {x : Int} : ∀ {lo : Option Int} {a : List Int}, endL lo (a ++ [x]) = some x
  | lo, [] => rfl
  | lo, y :: a => by
    show endL (some y) (a ++ [x]) = _
    exact endL_snoc
theorem snoc_cases (l : List Int) : l = [] ∨ ∃ a x, l = a ++ [x] := by
  rcases List.eq_nil_or_concat l with h | ⟨a, x, h⟩
  · exact .inl h
  · exact .inr ⟨a, x, by simpa using h⟩
theorem root_rec {l : Int} (h : 0 ≤ l) (u v sep p : Int) : ∃ z, z = Rc.inner (l + 1) none none [sep] [u, v] ∧ OkI (l + 1) none none [sep] [u, v] ∧ Ok z ∧ Sized p z ∧ live z ∧ lo_ z = none ∧ hi_ z = none ∧ (∀ y, (its z).count y = 0) ∧ ∀ y, (kids z).count y = ([(u, none, some sep, l)] : List Slot).count y + ([(v, some sep, none, l)] : List Slot).count y := by
  have O1 : OkI (l + 1) none none [sep] [u, v] := ⟨by omega, rfl, fun l h e => (by cases e), by simp, fun k hk => ⟨fun l e => (by cases e), fun l e => (by cases e)⟩, by simp⟩
  refine ⟨_, rfl, O1, O1, sized_of ?_ ?_, rfl, rfl, rfl, fun y => rfl, fun y => ?_⟩
  · rw [sz_inner]
    have := @most_ge (Rc.inner (l + 1) none none [sep] [u, v])
    simp only [List.length_cons, List.length_nil]
    omega
  · rw [sz_inner]
    simp only [List.length_cons, List.length_nil]
    omega
  · show (kidsF (l + 1 - 1) _ _ _ _).count y = _
    rw [show l + 1 - 1 = l by omega, ← cnt1]
    rfl
section
variable {P : List Pg} {path sibs : List Step} {R : List Tr} {fr n : Nat} {s : Step} {r r0 r1 : Rc} {lp : Int}
theorem settle_step (C : Ctx P path sibs) (hn : n + 1 = path.length) {i : Nat} (hs : path[i]? = some s) (T : Pend P r0 r1 lp n i s r R fr) :
    (∃ R' fr', fn_Draft_settle (dr path sibs R fr) [.int (i : Int), enc r] = some (.tup [.str "done", .non], dr path sibs R' fr') ∧ Fin P r0 r1 lp R' fr') ∨
    (∃ i' t r' R' fr', i = i' + 1 ∧ path[i']? = some t ∧ fn_Draft_settle (dr path sibs R fr) [.int (i : Int), enc r] = some (.tup [.str "up", enc r'], dr path sibs R' fr') ∧ Pend P r0 r1 lp n i' t r' R' fr') ∨
    (∃ q, 0 < i ∧ i ≤ n ∧ q = sp path i ∧ dLook (sibsT sibs) q = none ∧ fn_Draft_settle (dr path sibs R fr) [.int (i : Int), enc r] = some (.tup [.str "read", .int q], dr path sibs R fr) ∧ ∃ e ∈ P, e.1 = q) := by
  have X := C.ex
  have hshort := C.short
  have hms := C.mem s (List.mem_of_getElem? hs)
  have hil : i < path.length := (List.getElem?_eq_some_iff.mp hs).1
  have rgs : 0 ≤ s.p := (X.rng _ hms.1).1
  have fs := fresh_from (s := s) T.toBase X.nd T.low hms.1 rgs
  have hlen := T.len
  have m4 := @most_ge r
  have msize := T.size
  have Gs : Gv R fr [s.p] := T.toBase.gv (by omega) fun p hp => by
    simp only [List.mem_cons, List.not_mem_nil, or_false] at hp
    subst hp
    exact ⟨rgs, fs⟩
  have lvs : lvl r = lvl s.r := T.lv
  have offs : off s.p s.r = off s.p r := off_congr hms.2 T.lr T.lo.symm T.hi.symm T.lv.symm
  by_cases big : most r < sz r
  · obtain ⟨f, g, sep, K⟩ := cut_ok T.ok (big_of T.lr (by omega) T.ok)
    have mf : most f = most r := most_eq K.vf
    have mg : most g = most r := most_eq K.vg
    have Sf : ∀ p, Ok f ∧ Sized p f := fun p => ⟨K.okf, sized_of (by have := K.sf; omega) (by have := K.sf; omega)⟩
    have Sg : ∀ p, Ok g ∧ Sized p g := fun p => ⟨K.okg, sized_of (by have := K.sg2; omega) K.sg1⟩
    have h4 : ∀ y, (kids r).count y = (kids f).count y + (kids g).count y := fun y => by rw [K.kd, List.count_append]
    have h5 : ∀ y, (its r).count y = (its f).count y + (its g).count y := fun y => by rw [K.it, List.count_append]
    cases i with
    | zero =>
      have z0 := C.zero s hs
      have hrt := hms.1
      rw [z0] at hrt
      obtain ⟨_, q2, q3⟩ := X.root_eq hrt
      have lv0 : 0 ≤ lvl r := by
        have := C.lv 0 s hs
        rw [lvs]
        omega
      obtain ⟨z, ez, O1, Oz, Sz, lz, z1, z2, zi, zk⟩ := root_rec lv0 (-((fr + 1 : Nat) : Int)) (-((fr + 1 + 1 : Nat) : Int)) sep s.p
      have io := inner_ok O1
      rw [← ez] at io
      refine .inl ⟨_, _, settle_div (i := 0) T.ok T.lr (by rw [most_i]; omega) (divide_root hs K.ev io Gs), ?_⟩
      have B1 := T.toBase.add (r := f) (fun _ => Sf _)
      have B2 := B1.add (r := g) (fun _ => Sg _)
      have hnew : ∀ t ∈ R ++ [fresh fr f] ++ [fresh (fr + 1) g], t.p ≠ s.p := fun t ht => by
        rw [List.mem_append, List.mem_append, List.mem_singleton, List.mem_singleton] at ht
        rcases ht with (ht | rfl) | rfl
        · exact fs t ht
        · show -((fr + 1 : Nat) : Int) ≠ s.p
          omega
        · show -((fr + 1 + 1 : Nat) : Int) ≠ s.p
          omega
      have B3 := B2.give (s := s) (r := z) hms.1 hms.2 rgs hnew (fun _ => ⟨Oz, Sz⟩)
      have off1 := off_live (p := -((fr + 1 : Nat) : Int)) (by omega) K.lf
      have off2 := off_live (p := -((fr + 1 + 1 : Nat) : Int)) (by omega) K.lg
      rw [K.vf, K.lof, T.lo, q2, K.hif] at off1
      rw [K.vg, K.log, K.hig, T.hi, q3] at off2
      refine { B3 with bal := fun y => ?_, itm := fun y => ?_, leaf := ?_, root := fun t' ht' h => ?_, len := ?_ }
      · have h1 := T.bal y
        have h4 := h4 y
        have h7 := zk y
        simp only [sm_app, kN, kO, oN, oO, tr, fresh, off1, off2, off_free, kids_free, List.count_nil, z0, off_zero]
        omega
      · have h1 := T.itm y
        have h5 := h5 y
        have h7 := zi y
        simp only [sm_app, iN, iO, tr, fresh, its_free, List.count_nil]
        omega
      · simp only [List.map_append, List.mem_append, List.map_cons, List.map_nil, List.mem_singleton]
        rcases T.leaf with e | e
        · exact .inr e
        · exact .inl (.inl (.inl e))
      · rw [List.mem_append, List.mem_append, List.mem_append, List.mem_singleton, List.mem_singleton, List.mem_singleton] at ht'
        rcases ht' with ((ht' | rfl) | rfl) | rfl
        · exact absurd h (T.nz t' ht')
        · exact absurd h (by show -((fr + 1 : Nat) : Int) ≠ 0; omega)
        · exact absurd h (by show -((fr + 1 + 1 : Nat) : Int) ≠ 0; omega)
        · exact ⟨lz, z1, z2⟩
      · simp only [List.length_append, List.length_cons, List.length_nil]
        omega
    | succ i =>
      obtain ⟨t, ht⟩ : ∃ t, path[i]? = some t := ⟨path[i]'(by omega), List.getElem?_eq_getElem (by omega)⟩
      obtain ⟨zs, lv, lo, hi, a, b, c, d, et, hac, hbd, elo, ehi, elv⟩ := C.link i t s ht hs
      have hmt := C.mem t (List.mem_of_getElem? ht)
      have okt := X.ok _ hmt.1 hmt.2
      have okt1 : OkI lv lo hi (a ++ b) (c ++ s.p :: d) := by have := okt.1; simp only [et] at this; exact this
      have lvt : lvl t.r = lv := by rw [et]; rfl
      have lv1 := okt1.lv
      have szt : sz t.r = c.length + d.length + 1 := by rw [et, sz_inner]; simp only [List.length_append, List.length_cons]; omega
      have mt : most t.r = 5 := by unfold most; rw [lvt, if_neg (by omega)]
      have szt2 : sz t.r ≤ 5 := by have := okt.2.1; simp only at this; omega
      have szt3 : 2 ≤ sz t.r := by
        rcases okt.2.2 with h | h
        · have h := h.2
          simp only at h
          omega
        · exact h
      have nd : (c ++ s.p :: d).Nodup := by
        have := X.kidNd hmt.1
        simp only [et] at this
        have e : (kids (.inner lv lo hi (a ++ b) (c ++ s.p :: d))).map (·.1) = _ := kidsF_pages okt1.len
        rw [e] at this
        exact this
      have hnc : ∀ x ∈ c, x ≠ s.p := fun x hx e => by
        rw [List.nodup_append] at nd
        exact nd.2.2 x hx s.p List.mem_cons_self e
      have hp := place_in_parent_ok (sibs := sibs) (R := R) (fr := fr) ht hs et hac hbd hnc (by omega) elo ehi hms.2
      have g1 : gtLo (endL lo a) sep := by rw [← elo, ← T.lo]; exact K.gt
      have g2 : ltHi (headR hi b) sep := by rw [← ehi, ← T.hi]; exact K.lt
      obtain ⟨r', e1, Q⟩ := par_ins (q := -((fr + 1 : Nat) : Int)) okt1 hac (by omega) g1 g2
      rw [← et] at e1 Q
      refine .inr (.inl ⟨i, t, r', _, _, rfl, ht, settle_div T.ok T.lr (by rw [most_i]; omega) (divide_up ht hs hp K.ev e1 Gs), ?_⟩)
      have B1 := T.toBase.give (s := s) (r := f) hms.1 hms.2 rgs fs (fun _ => Sf _)
      have B2 := B1.add (r := g) (fun _ => Sg _)
      have szr : sz r' = sz t.r + 1 := by have := Q.sz; omega
      have mr' : most r' = 5 := by unfold most; rw [Q.lv, lvt, if_neg (by omega)]
      have off0 := off_live zs hms.2
      have off1 := off_live zs K.lf
      have off2 := off_live (p := -((fr + 1 : Nat) : Int)) (by omega) K.lg
      rw [elo, ehi, elv] at off0
      rw [K.vf, K.lof, T.lo, elo, K.hif, lvs, elv] at off1
      rw [K.vg, K.log, K.hig, T.hi, ehi, lvs, elv] at off2
      refine { B2 with ok := Q.ok, lr := ?_, lv := Q.lv, lo := Q.lo, hi := Q.hi, size := ⟨by omega, .inr (by omega), fun _ => .inr (by omega)⟩, bal := fun y => ?_, itm := fun y => ?_, low := fun t' ht' h => ?_, leaf := ?_, len := ?_, nz := fun t' ht' => ?_ }
      · obtain ⟨_, _, _, _, _, rfl⟩ := Q.inn
        rfl
      · have h1 := T.bal y
        have h2 := Q.kd y
        have h4 := h4 y
        rw [cnt1] at h2
        simp only [sm_app, kN, kO, oN, oO, tr, fresh, off0, off1, off2, off_free, kids_free, List.count_nil]
        omega
      · have h1 := T.itm y
        have h5 := h5 y
        have h6 : (its r').count y = 0 := by obtain ⟨_, _, _, _, _, rfl⟩ := Q.inn; rfl
        have h7 : (its t.r).count y = 0 := by rw [et]; rfl
        simp only [sm_app, iN, iO, tr, fresh, its_free, List.count_nil]
        omega
      · rw [lvt]
        rw [List.mem_append, List.mem_append, List.mem_singleton, List.mem_singleton] at ht'
        rcases ht' with (ht' | rfl) | rfl
        · have := T.low t' ht' h
          omega
        · show lvl s.r < lv
          omega
        · have h : (0 : Int) ≤ -((fr + 1 : Nat) : Int) := h
          omega
      · right
        simp only [List.map_append, List.mem_append, List.map_cons, List.map_nil, List.mem_singleton]
        rcases T.leaf with e | e
        · exact .inl (.inr e)
        · exact .inl (.inl e)
      · simp only [List.length_append, List.length_cons, List.length_nil]
        omega
      · rw [List.mem_append, List.mem_append, List.mem_singleton, List.mem_singleton] at ht'
        rcases ht' with (ht' | rfl) | rfl
        · exact T.nz t' ht'
        · exact zs
        · show -((fr + 1 : Nat) : Int) ≠ 0
          omega
  · by_cases sm2 : i = 0 ∨ 2 ≤ sz r
    · refine .inl ⟨_, _, settle_done hs T.ok T.lr (by rw [most_i]; omega) sm2 Gs, ?_⟩
      have szd : Sized s.p r := ⟨by omega, by
        rcases sm2 with h | h
        · rcases msize.2.2 h with h2 | h2
          · exact .inl ⟨by subst h; exact C.zero s hs, h2⟩
          · exact .inr h2
        · exact .inr h⟩
      have B1 := T.toBase.give (s := s) (r := r) hms.1 hms.2 rgs fs (fun _ => ⟨T.ok, szd⟩)
      refine { B1 with bal := fun y => ?_, itm := fun y => ?_, leaf := ?_, root := fun t' ht' h => ?_, len := ?_ }
      · have h1 := T.bal y
        simp only [sm_app, kN, kO, oN, oO, tr, offs]
        omega
      · have h1 := T.itm y
        simp only [sm_app, iN, iO, tr]
        omega
      · simp only [List.map_append, List.mem_append, List.map_cons, List.map_nil, List.mem_singleton]
        rcases T.leaf with e | e
        · exact .inr e
        · exact .inl e
      · rcases List.mem_append.mp ht' with ht' | ht'
        · exact absurd h (T.nz t' ht')
        · cases List.mem_singleton.mp ht'
          have h : s.p = 0 := h
          have hrt := hms.1
          rw [h] at hrt
          obtain ⟨_, q2, q3⟩ := X.root_eq hrt
          exact ⟨T.lr, T.lo.trans q2, T.hi.trans q3⟩
      · simp only [List.length_append, List.length_cons, List.length_nil]
        omega
    · have hi0 : i ≠ 0 := fun h => sm2 (.inl h)
      have hsm : sz r = 1 := by
        rcases msize.2.1 with h | h
        · exact absurd h.1 hi0
        · have : ¬ 2 ≤ sz r := fun h => sm2 (.inr h)
          omega
      obtain ⟨i, rfl⟩ : ∃ j, i = j + 1 := ⟨i - 1, by omega⟩
      obtain ⟨t, ht⟩ : ∃ t, path[i]? = some t := ⟨path[i]'(by omega), List.getElem?_eq_getElem (by omega)⟩
      obtain ⟨zs, lv, lo, hi, a, b, c, d, et, hac, hbd, elo, ehi, elv⟩ := C.link i t s ht hs
      have hmt := C.mem t (List.mem_of_getElem? ht)
      have okt := X.ok _ hmt.1 hmt.2
      have okt1 : OkI lv lo hi (a ++ b) (c ++ s.p :: d) := by have := okt.1; simp only [et] at this; exact this
      have lvt : lvl t.r = lv := by rw [et]; rfl
      have lv1 := okt1.lv
      have szt : sz t.r = c.length + d.length + 1 := by rw [et, sz_inner]; simp only [List.length_append, List.length_cons]; omega
      have mt : most t.r = 5 := by unfold most; rw [lvt, if_neg (by omega)]
      have szt2 : sz t.r ≤ 5 := by have := okt.2.1; simp only at this; omega
      have szt3 : 2 ≤ sz t.r := by
        rcases okt.2.2 with h | h
        · have h := h.2
          simp only at h
          omega
        · exact h
      have nd : (c ++ s.p :: d).Nodup := by
        have := X.kidNd hmt.1
        simp only [et] at this
        have e : (kids (.inner lv lo hi (a ++ b) (c ++ s.p :: d))).map (·.1) = _ := kidsF_pages okt1.len
        rw [e] at this
        exact this
      have hnc : ∀ x ∈ c, x ≠ s.p := fun x hx e => by
        rw [List.nodup_append] at nd
        exact nd.2.2 x hx s.p List.mem_cons_self e
      have hp := place_in_parent_ok (sibs := sibs) (R := R) (fr := fr) ht hs et hac hbd hnc (by omega) elo ehi hms.2
      have spe := sp_eq ht hs
      have lvr : lvl r = lv - 1 := by omega
      have nb : ¬ (if lvl r = 0 then (4 : Int) else 5) < sz r := by rw [most_i]; omega
      rcases snoc_cases a with rfl | ⟨a, x, rfl⟩
      · -- the right neighbour
        obtain rfl : c = [] := List.eq_nil_of_length_eq_zero hac.symm
        obtain ⟨q, d, rfl⟩ : ∃ q d', d = q :: d' := by
          cases d with
          | nil => simp at szt; omega
          | cons q d => exact ⟨q, d, rfl⟩
        obtain ⟨x, b, rfl⟩ : ∃ q d', b = q :: d' := by
          cases b with
          | nil => simp at hbd
          | cons q d => exact ⟨q, d, rfl⟩
        have hbd' : b.length = d.length := by simpa using hbd
        have hk : (q, some x, headR hi b, lv - 1) ∈ kids t.r := by
          rw [et]
          show _ ∈ kidsF _ _ _ ([] ++ x :: b) ([] ++ s.p :: q :: d)
          rw [kids2 rfl hbd']
          simp
        obtain ⟨e, he, hq, h0, hl⟩ := X.child hmt.1 hk
        have q1 : q = e.1 := congrArg (fun z : Slot => z.1) hq
        have q2 : some x = lo_ e.2.2 := congrArg (fun z : Slot => z.2.1) hq
        have q3 : headR hi b = hi_ e.2.2 := congrArg (fun z : Slot => z.2.2.1) hq
        have q4 : lv - 1 = lvl e.2.2 := congrArg (fun z : Slot => z.2.2.2) hq
        have spq : q = sp path (i + 1) := by
          rw [spe, et]
          rw [spQ_inner]
          rw [idx_mid hnc]
          rfl
        have ixq : dIx (tI ([] ++ s.p :: q :: d)) (.int 1) = some (.int q) := ix_mid (a := [s.p]) rfl
        have U : Uni path sibs R fr i s t (([] : List Int).length : Nat) 1 q := ⟨ht, hs, hp, ⟨_, _, _, _, _, et, ixq⟩, rfl⟩
        cases hsb : dLook (sibsT sibs) q with
        | none => exact .inr (.inr ⟨q, by omega, by omega, spq, hsb, settle_uni T.ok T.lr nb (by omega) (by omega) (unite_read U hsb), e, he, q1.symm⟩)
        | some dsb =>
          obtain ⟨sb, rfl, sbp, sbm⟩ := C.sib q _ hsb
          have ee : (sb.p, sb.a, sb.r) = e := nd_eq X.nd sbm he (sbp.trans q1)
          have er : sb.r = e.2.2 := congrArg (fun z : Pg => z.2.2) ee
          rw [← er] at q2 q3 q4 hl
          subst sbp
          have oksb := X.ok _ sbm hl
          have ss1 : sz sb.r ≤ most r := by have := oksb.2.1; simp only at this; rw [most_eq (show lvl r = lvl sb.r by omega)]; exact this
          have ss2 : 2 ≤ sz sb.r := by
            rcases oksb.2.2 with h | h
            · exact absurd (h.1.symm ▸ q1.symm : e.1 = 0) h0
            · exact h
          have cb := child_bounds_inner (lv := lv) (lo := lo) (hi := hi) (ks := [x] ++ b) (ps := s.p :: sb.p :: d) (i := [x].length) (by simp)
          rw [cbLo_end (hi := hi), cbHi_head] at cb
          have Tw : Two P path R fr n i t s sb r sb.r r0 r1 lp lv lo hi [] b [] d x := { T.toBase with
            ht := ht, tr' := et, hac := rfl, hbd := hbd', ml := hms.1, mr := sbm, ll := hms.2, lr := hl, zl := zs, zr := fun h => h0 (by rw [← q1]; exact h)
            ne := fun h => by
              rw [List.nil_append, List.nodup_cons] at nd
              exact nd.1 (by rw [h]; exact List.mem_cons_self)
            okl := T.ok, okr := oksb.1, lrl := T.lr, lrr := hl, vl := lvr, vr := q4.symm
            lol := T.lo.trans elo, hil := T.hi.trans ehi, lor := q2.symm, hir := q3.symm
            svl := elv, svr := q4.symm, slol := elo, shil := ehi, slor := q2.symm, shir := q3.symm
            z1 := by omega, z2 := by omega
            bal := fun y => by have := T.bal y; omega
            itm := fun y => by have := T.itm y; omega
            low := fun t' ht' h => by have := T.low t' ht' h; omega
            leaf := T.leaf.imp id .inr
            len := hlen, nz := T.nz }
          have cb' : fn_child_bounds [enc t.r, .int 1] = some (.tup [bd (lo_ sb.r), bd (hi_ sb.r)]) := by
            rw [← q2, ← q3, et]
            exact cb
          rcases pair_step C hn Tw with ⟨R', fr', ev, F⟩ | ⟨r', R', fr', ev, F⟩
          · exact .inl ⟨R', fr', settle_uni T.ok T.lr nb (by omega) (by omega) (unite_go U hsb (q4.symm.trans lvr.symm) hl cb' (.inr ⟨by simp, ev⟩)), F⟩
          · exact .inr (.inl ⟨i, t, r', R', fr', rfl, ht, settle_uni T.ok T.lr nb (by omega) (by omega) (unite_go U hsb (q4.symm.trans lvr.symm) hl cb' (.inr ⟨by simp, ev⟩)), F⟩)
      · -- the left neighbour
        rcases snoc_cases c with rfl | ⟨c, q, rfl⟩
        · simp at hac
        · have hac' : a.length = c.length := by simpa using hac
          have e1 : a ++ [x] ++ b = a ++ x :: b := by simp
          have e2 : c ++ [q] ++ s.p :: d = c ++ q :: s.p :: d := by simp
          rw [e1, e2] at et
          rw [e1, e2] at okt1
          rw [endL_snoc] at elo
          have hk : (q, endL lo a, some x, lv - 1) ∈ kids t.r := by
            rw [et]
            show _ ∈ kidsF _ _ _ (a ++ x :: b) (c ++ q :: s.p :: d)
            rw [kids2 hac' hbd]
            simp
          obtain ⟨e, he, hq, h0, hl⟩ := X.child hmt.1 hk
          have q1 : q = e.1 := congrArg (fun z : Slot => z.1) hq
          have q2 : endL lo a = lo_ e.2.2 := congrArg (fun z : Slot => z.2.1) hq
          have q3 : some x = hi_ e.2.2 := congrArg (fun z : Slot => z.2.2.1) hq
          have q4 : lv - 1 = lvl e.2.2 := congrArg (fun z : Slot => z.2.2.2) hq
          have spq : q = sp path (i + 1) := by
            rw [spe, et, ← e2]
            rw [spQ_inner]
            rw [idx_mid hnc]
            simp
          have ixq : dIx (tI (c ++ q :: s.p :: d)) (.int (c.length : Int)) = some (.int q) := ix_mid rfl
          have U : Uni path sibs R fr i s t ((a ++ [x]).length : Nat) (c.length : Nat) q := ⟨ht, hs, hp, ⟨_, _, _, _, _, et, ixq⟩, by
            rw [if_neg (by simp; omega)]
            simp only [List.length_append, List.length_cons, List.length_nil]
            omega⟩
          cases hsb : dLook (sibsT sibs) q with
          | none => exact .inr (.inr ⟨q, by omega, by omega, spq, hsb, settle_uni T.ok T.lr nb (by omega) (by omega) (unite_read U hsb), e, he, q1.symm⟩)
          | some dsb =>
            obtain ⟨sb, rfl, sbp, sbm⟩ := C.sib q _ hsb
            have ee : (sb.p, sb.a, sb.r) = e := nd_eq X.nd sbm he (sbp.trans q1)
            have er : sb.r = e.2.2 := congrArg (fun z : Pg => z.2.2) ee
            rw [← er] at q2 q3 q4 hl
            subst sbp
            have oksb := X.ok _ sbm hl
            have ss1 : sz sb.r ≤ most r := by have := oksb.2.1; simp only at this; rw [most_eq (show lvl r = lvl sb.r by omega)]; exact this
            have ss2 : 2 ≤ sz sb.r := by
              rcases oksb.2.2 with h | h
              · exact absurd (h.1.symm ▸ q1.symm : e.1 = 0) h0
              · exact h
            have cb := child_bounds_inner (lv := lv) (lo := lo) (hi := hi) (ks := a ++ x :: b) (ps := c ++ sb.p :: s.p :: d) (i := a.length) (by simp)
            rw [cbLo_end (hi := hi), cbHi_head] at cb
            have Tw : Two P path R fr n i t sb s sb.r r r0 r1 lp lv lo hi a b c d x := { T.toBase with
              ht := ht, tr' := et, hac := hac', hbd := hbd, ml := sbm, mr := hms.1, ll := hl, lr := hms.2, zl := fun h => h0 (by rw [← q1]; exact h), zr := zs
              ne := fun h => hnc sb.p (by simp) h
              okl := oksb.1, okr := T.ok, lrl := hl, lrr := T.lr, vl := q4.symm, vr := lvr
              lol := q2.symm, hil := q3.symm, lor := T.lo.trans elo, hir := T.hi.trans ehi
              svl := q4.symm, svr := elv, slol := q2.symm, shil := q3.symm, slor := elo, shir := ehi
              z1 := by rw [most_eq (show lvl sb.r = lvl r by omega)]; omega, z2 := by omega
              bal := fun y => by have := T.bal y; omega
              itm := fun y => by have := T.itm y; omega
              low := fun t' ht' h => by have := T.low t' ht' h; omega
              leaf := .inr T.leaf
              len := hlen, nz := T.nz }
            have cb' : fn_child_bounds [enc t.r, .int (c.length : Nat)] = some (.tup [bd (lo_ sb.r), bd (hi_ sb.r)]) := by
              rw [← q2, ← q3, et, ← hac']
              exact cb
            have nn : (((a ++ [x]).length : Nat) : Int) = (a.length : Int) + 1 := by simp
            rcases pair_step C hn Tw with ⟨R', fr', ev, F⟩ | ⟨r', R', fr', ev, F⟩
            · rw [← nn] at ev
              exact .inl ⟨R', fr', settle_uni T.ok T.lr nb (by omega) (by omega) (unite_go U hsb (q4.symm.trans lvr.symm) hl cb' (.inl ⟨by simp; omega, ev⟩)), F⟩
            · rw [← nn] at ev
              exact .inr (.inl ⟨i, t, r', R', fr', rfl, ht, settle_uni T.ok T.lr nb (by omega) (by omega) (unite_go U hsb (q4.symm.trans lvr.symm) hl cb' (.inl ⟨by simp; omega, ev⟩)), F⟩)
end
end K32
end
section
set_option Elab.async false
set_option linter.all false
set_option maxRecDepth 100000
set_option maxHeartbeats 1000000
/-! the plan -/
namespace K32
open PySem PySem.Spec PyProof.Rows L2
local macro_rules | `(tactic| walk_at "ev") => `(tactic| simp only [ev_f2, ev_f1, ev_fC, ev_v0, ev_vs, ev_c0, ev_c1, ev_c2, ev_cs, ev_call, ev_all0, ev_all1, ev_tup, ev_lst, ev_T, ev_andT, ev_orT, ev_notT, ev_and, ev_or, ev_not, ev_if, ev_seq, ev_nx, ev_bk, ev_no, ev_set, ev_M, ev_ret, ev_drop, ev_un, ev_ns1, ev_ns0, ev_sl, ev_o0, ev_o1, ev_neg, ev_ch, ev_fz0, ev_fz1, ev_fz2, ev_fz3, ev_fz4, ev_fz5, ev_st0, ev_sts, fn_0, fn_1, fn_2, fn_3, fn_4, fn_5,
  j_b1, j_b2, j_bL, j_cL, j_mD, j_bT, j_andT, j_andF, j_orF, j_orT, j_not, j_bl, j_aDT, j_aDF, j_oDF, j_oDT, j_ifT, j_ifF, j_seqN, j_seqR, j_seqB, j_set, j_pM, j_ret, j_drop, j_un, j_sl, j_some, j_chT, j_chF, j_chP, j_endR, j_endN, j_nones0, j_nonesS, ix0, ix1, ix2, ix3, ix4, ix5,
  d_lt, d_le, d_gt, d_ge, d_addI, d_sub, d_lenL, d_eqI, d_eqS, d_eqNI, d_eqIN, d_eqNN, d_neI, d_neS, d_neNI, d_neIN, d_neNN, d_isNN, d_isNI, d_isNB, d_isNT, d_isND, d_notNN, d_notNI, d_notNT, d_notND, d_slT, d_neg, d_tupT, d_tupL, d_listL, d_dict, d_intI, d_intB,
  List.length_cons, List.length_nil, Nat.reduceAdd, Nat.reduceSub, if_true, if_false, reduceIte, Bool.not_true, Bool.not_false, decide_true, decide_false, Bool.false_eq_true, tI_len, ev_for, ev_r1, ev_r2, ev_r3, ev_iT, ev_iL, ev_lc, ev_yes, j_for, j_iT, j_iTI, j_iL, isi_tup, isi_tI, isi_int, isi_ib, isi_non, dtup_tI, cut51, cut61, cut62, cut605, cut513, cut624, ixm5, ixm6, d_len2, d_len3, d_len4, d_len5, d_len6, s_ll, s_il, s_ii, s_fl, s_fi, s_li, s_ff, s_lf, s_if, eq_self, at_0, at_s, ev_putR, ev_putA, ev_fresh, ev_fld, ev_meth, ev_aM0, ev_aM1, ev_tupM, ev_make, j_fresh, j_fld, j_meth, j_mO, j_aM1, j_aM2, j_tM2, j_make, j_endMR, j_endMN, fnM_0, fnM_1, fnM_2, fnM_4, dr_fr, encS_def, eq_bds, ne_bds, Int.reduceLT, Int.reduceLE, Int.reduceEq, Int.reduceNeg])
local macro_rules | `(tactic| walk_at "evh") => `(tactic| simp only [*, ev_f2, ev_f1, ev_fC, ev_v0, ev_vs, ev_c0, ev_c1, ev_c2, ev_cs, ev_call, ev_all0, ev_all1, ev_tup, ev_lst, ev_T, ev_andT, ev_orT, ev_notT, ev_and, ev_or, ev_not, ev_if, ev_seq, ev_nx, ev_bk, ev_no, ev_set, ev_M, ev_ret, ev_drop, ev_un, ev_ns1, ev_ns0, ev_sl, ev_o0, ev_o1, ev_neg, ev_ch, ev_fz0, ev_fz1, ev_fz2, ev_fz3, ev_fz4, ev_fz5, ev_st0, ev_sts, fn_0, fn_1, fn_2, fn_3, fn_4, fn_5,
  j_b1, j_b2, j_bL, j_cL, j_mD, j_bT, j_andT, j_andF, j_orF, j_orT, j_not, j_bl, j_aDT, j_aDF, j_oDF, j_oDT, j_ifT, j_ifF, j_seqN, j_seqR, j_seqB, j_set, j_pM, j_ret, j_drop, j_un, j_sl, j_some, j_chT, j_chF, j_chP, j_endR, j_endN, j_nones0, j_nonesS, ix0, ix1, ix2, ix3, ix4, ix5,
  d_lt, d_le, d_gt, d_ge, d_addI, d_sub, d_lenL, d_eqI, d_eqS, d_eqNI, d_eqIN, d_eqNN, d_neI, d_neS, d_neNI, d_neIN, d_neNN, d_isNN, d_isNI, d_isNB, d_isNT, d_isND, d_notNN, d_notNI, d_notNT, d_notND, d_slT, d_neg, d_tupT, d_tupL, d_listL, d_dict, d_intI, d_intB,
  List.length_cons, List.length_nil, Nat.reduceAdd, Nat.reduceSub, if_true, if_false, reduceIte, Bool.not_true, Bool.not_false, decide_true, decide_false, Bool.false_eq_true, tI_len, ev_for, ev_r1, ev_r2, ev_r3, ev_iT, ev_iL, ev_lc, ev_yes, j_for, j_iT, j_iTI, j_iL, isi_tup, isi_tI, isi_int, isi_ib, isi_non, dtup_tI, cut51, cut61, cut62, cut605, cut513, cut624, ixm5, ixm6, d_len2, d_len3, d_len4, d_len5, d_len6, s_ll, s_il, s_ii, s_fl, s_fi, s_li, s_ff, s_lf, s_if, eq_self, at_0, at_s, ev_putR, ev_putA, ev_fresh, ev_fld, ev_meth, ev_aM0, ev_aM1, ev_tupM, ev_make, j_fresh, j_fld, j_meth, j_mO, j_aM1, j_aM2, j_tM2, j_make, j_endMR, j_endMN, fnM_0, fnM_1, fnM_2, fnM_4, dr_fr, encS_def, eq_bds, ne_bds, Int.reduceLT, Int.reduceLE, Int.reduceEq, Int.reduceNeg])

theorem ins_perm (x : Int) : ∀ l : List Int, (insI x l).Perm (x :: l)
  | [] => .refl _
  | y :: l => by
    unfold insI
    split
    · exact .refl _
    · exact ((ins_perm x l).cons y).trans (.swap x y l)
theorem sort_perm : ∀ l : List Int, (sortI l).Perm l
  | [] => .refl _
  | x :: l => (ins_perm x (sortI l)).trans ((sort_perm l).cons x)
theorem sm_perm {α : Type} {f : α → Nat} {l l' : List α} (h : l.Perm l') : sm f l = sm f l' := by
  induction h with
  | nil => rfl
  | cons x _ ih => rw [sm_cons, sm_cons, ih]
  | swap x y l => rw [sm_cons, sm_cons, sm_cons, sm_cons]; omega
  | trans _ _ ih1 ih2 => exact ih1.trans ih2
theorem perm_back {α β : Type} {f : α → β} : ∀ {l : List β} {R : List α}, l.Perm (R.map f) → ∃ R' : List α, R'.Perm R ∧ R'.map f = l
  | [], R, h => by
    have := h.symm.eq_nil
    rw [List.map_eq_nil_iff] at this
    subst this
    exact ⟨[], .refl _, rfl⟩
  | y :: l, R, h => by
    obtain ⟨t, ht, rfl⟩ := List.mem_map.mp (h.subset List.mem_cons_self)
    obtain ⟨a, b, rfl⟩ := List.append_of_mem ht
    have h1 : (a ++ t :: b).Perm (t :: (a ++ b)) := List.perm_middle
    have h2 := (h.trans (h1.map f)).cons_inv
    obtain ⟨R', h3, rfl⟩ := perm_back h2
    exact ⟨t :: R', (h3.cons t).trans h1.symm, rfl⟩
structure Ent where
  p : Int
  a : D
  r : Rc
def encE (e : Ent) : D := .tup [.int e.p, e.a, enc e.r]
def adT (t : Tr) : D := if 0 ≤ t.p then .int t.a else .non
def entT (t : Tr) : Ent := ⟨t.p, adT t, t.new⟩
/-- a plan's outcome, in any order -/
structure Plan (P : List Pg) (r0 r1 : Rc) (lp : Int) (R : List Tr) (fr : Nat) : Prop where
  pg : ∀ t ∈ R, (t.p < 0 ∧ -(fr : Int) ≤ t.p ∧ t.old = .free 0) ∨ (0 ≤ t.p ∧ (t.p, t.a, t.old) ∈ P ∧ live t.old)
  nd : (R.map (·.p)).Nodup
  neg : (R.filter fun t => decide (t.p < 0)).length = fr
  sized : ∀ t ∈ R, live t.new → Ok t.new ∧ Sized t.p t.new
  bal : ∀ s, sm (kN s) R + sm (oO s) R = sm (oN s) R + sm (kO s) R
  itm : ∀ x, sm (iN x) R + (its r0).count x = sm (iO x) R + (its r1).count x
  leaf : lp ∈ R.map (·.p)
  root : ∀ t ∈ R, t.p = 0 → live t.new ∧ lo_ t.new = none ∧ hi_ t.new = none
  len : R.length ≤ 90
theorem Fin.plan {P : List Pg} {r0 r1 : Rc} {lp : Int} {R R' : List Tr} {fr : Nat} (F : Fin P r0 r1 lp R fr) (h : R'.Perm R) : Plan P r0 r1 lp R' fr where
  pg := fun t ht => F.pg t (h.subset ht)
  nd := (h.map _).nodup_iff.mpr F.nd
  neg := by
    have := congrArg List.length F.neg
    rw [List.length_map, List.length_map, List.length_range] at this
    rw [(h.filter _).length_eq, this]
  sized := fun t ht => F.sized t (h.subset ht)
  bal := fun s => by rw [sm_perm h, sm_perm h, sm_perm h, sm_perm h]; exact F.bal s
  itm := fun s => by rw [sm_perm h, sm_perm h]; exact F.itm s
  leaf := (h.map _).symm.subset F.leaf
  root := fun t ht => F.root t (h.subset ht)
  len := by rw [h.length_eq]; exact F.len
theorem look_map {β : Type} {f : Tr → D} : ∀ {R : List Tr} {t : Tr}, (R.map (·.p)).Nodup → t ∈ R → dLook (R.map fun t => (t.p, f t)) t.p = some (f t)
  | u :: R, t, nd, h => by
    rw [List.map_cons, List.nodup_cons] at nd
    unfold dLook
    rw [List.map_cons, List.find?_cons]
    rcases List.mem_cons.mp h with rfl | h
    · simp
    · have : u.p ≠ t.p := fun e => nd.1 (List.mem_map.mpr ⟨t, h, e.symm⟩)
      simp only [decide_eq_false this]
      exact look_map (β := β) nd.2 h
theorem look_none {es : List (Int × D)} {k : Int} (h : ∀ e ∈ es, e.1 ≠ k) : dLook es k = none := by
  unfold dLook
  rw [List.find?_eq_none.mpr]
  · rfl
  · intro e he
    simp only [decide_eq_true_eq]
    exact h e he
theorem adr_look {R : List Tr} {t : Tr} (nd : (R.map (·.p)).Nodup) (h : t ∈ R) : (dLook (adrsT R) t.p).getD .non = adT t := by
  unfold adrsT adT
  split
  · rename_i h0
    rw [look_map (β := Unit) (f := fun t => .int t.a) (List.Sublist.nodup ((List.filter_sublist (l := R)).map _) nd) (List.mem_filter.mpr ⟨h, decide_eq_true h0⟩)]
    rfl
  · rename_i h0
    rw [look_none]
    · rfl
    · intro e he
      obtain ⟨u, hu, rfl⟩ := List.mem_map.mp he
      have := of_decide_eq_true (List.mem_filter.mp hu).2
      show u.p ≠ t.p
      omega
theorem entries_ok {P : List Pg} {path sibs : List Step} {R : List Tr} {fr : Nat} (B : Base P R fr) (len : R.length ≤ 90) :
    ∃ R' : List Tr, R'.Perm R ∧ fn_Draft_entries (dr path sibs R fr) [] = some (.lst ((R'.map entT).map encE), dr path sibs R fr) := by
  let l1 := sortI ((R.map (·.p)).filter fun p => decide (0 ≤ p))
  let l2 : List Int := (List.range fr).map fun (i : Nat) => -((i : Int) + 1)
  have hfr : fr ≤ 90 := by
    have := congrArg List.length B.neg
    rw [List.length_map, List.length_map, List.length_range] at this
    have := List.length_filter_le (fun t : Tr => decide (t.p < 0)) R
    omega
  have p1 : (l1 ++ l2).Perm (R.map (·.p)) := by
    have h1 : l1.Perm ((R.map (·.p)).filter fun p => decide (0 ≤ p)) := sort_perm _
    have h2 : l2 = (R.map (·.p)).filter fun p => !decide (0 ≤ p) := by
      show (List.range fr).map (fun (i : Nat) => -((i : Int) + 1)) = _
      rw [← B.neg, List.filter_map]
      congr 1
      apply List.filter_congr
      intro t _
      show decide (t.p < 0) = !decide (0 ≤ t.p)
      by_cases h : 0 ≤ t.p
      · rw [decide_eq_true h, decide_eq_false (by omega)]; rfl
      · rw [decide_eq_false h, decide_eq_true (by omega)]; rfl
    rw [h2]
    exact (h1.append_right _).trans (List.filter_append_perm _ _)
  have hl : l1.length + l2.length ≤ 90 := by
    have h1 := p1.length_eq
    have h2 : (R.map (·.p)).length = R.length := List.length_map _
    rw [h2, List.length_append] at h1
    omega
  obtain ⟨R', hR, hp⟩ := perm_back p1
  refine ⟨R', hR, ?_⟩
  have c1 : ∀ ρ : En, ρ = [some (.ob (dr path sibs R fr)), none, none, none] → fLcK (fdRecs 0) none (fT (f2 dGe (fVar 2) (fC (.int 0)))) (fVar 2) 2 ρ = some (.lst (((R.map (·.p)).filter fun p => decide (0 ≤ p)).map D.int)) := by
    rintro ρ rfl
    unfold fLcK
    show (if (recsT R).length ≤ 100000 then (compD (fT (f2 dGe (fVar 2) (fC (.int 0)))) (fVar 2) 2 [none, none, none, none] (keysD (recsT R))).bind _ else none) = _
    rw [if_pos (by simp only [recsT, List.length_map]; omega)]
    have e : keysD (recsT R) = (R.map (·.p)).map D.int := by
      unfold keysD recsT
      rw [List.map_map, List.map_map]
      rfl
    rw [e, comp_eq (fun d => match d with
      | .int p => decide (0 ≤ p)
      | _ => false) id fun d hd => by
      obtain ⟨p, _, rfl⟩ := List.mem_map.mp hd
      exact ⟨rfl, fun _ => rfl⟩]
    rw [List.map_id, List.filter_map]
    show (intsD _).map _ = _
    rw [intsD_map]
    rfl
  have c2 : dSorted (.lst (((R.map (·.p)).filter fun p => decide (0 ≤ p)).map D.int)) = some (.lst (l1.map D.int)) := by
    show (intsD _).map _ = _
    rw [intsD_map]
    rfl
  have c3 : ∀ ρ : En, lcO (some (rngD 0 1 fr)) fYes (f2 dSub (fNeg (fC (.int 1))) (fVar 3)) 3 (some (.ob (dr path sibs R fr)) :: some (.fz (.lst (l1.map D.int))) :: none :: none :: ρ) = some (.lst (l2.map D.int)) := by
    intro ρ
    rw [j_lc (by simp only [rngD, List.length_map, List.length_range]; omega), comp_all (fun d => match d with
      | .int i => .int (-1 - i)
      | d => d)]
    · show some (D.lst (List.map _ (List.map _ (List.range fr)))) = some (D.lst (List.map D.int (List.map _ (List.range fr))))
      rw [List.map_map, List.map_map]
      congr 2
      apply List.map_congr_left
      intro i _
      show D.int (-1 - (0 + (i : Int) * 1)) = D.int (-((i : Int) + 1))
      congr 1
      omega
    · intro d hd
      obtain ⟨i, _, rfl⟩ := List.mem_map.mp hd
      rfl
  have c4 : dAdd (.lst (l1.map D.int)) (.lst (l2.map D.int)) = some (.lst ((l1 ++ l2).map D.int)) := by
    rw [d_catL (by simp only [List.length_map]; omega), List.map_append]
  have c5 : ∀ (ρ : En), lcO (some ((l1 ++ l2).map D.int)) fYes (fTup [(fVar 2), (fGet1 (fFld drAd 0) (fVar 2)), (f2 dIx (fFld drRc 0) (fVar 2))]) 2 (some (.ob (dr path sibs R fr)) :: some (.fz (.lst ((l1 ++ l2).map D.int))) :: none :: ρ) = some (.lst ((R'.map entT).map encE)) := by
    intro ρ
    rw [j_lc (by simp only [List.length_map, List.length_append]; omega), ← hp, comp_all (fun d => match d with
      | .int p => .tup [.int p, (dLook (adrsT R) p).getD .non, (dLook (recsT R) p).getD .non]
      | d => d)]
    · show some (D.lst (List.map _ (List.map _ (List.map _ R')))) = some (D.lst (List.map encE (List.map entT R')))
      rw [List.map_map, List.map_map, List.map_map]
      congr 2
      apply List.map_congr_left
      intro t ht
      have ht' := hR.subset ht
      show D.tup [.int t.p, (dLook (adrsT R) t.p).getD .non, (dLook (recsT R) t.p).getD .non] = encE (entT t)
      rw [adr_look B.nd ht']
      have := look_map (β := Unit) (f := fun t => enc t.new) B.nd ht'
      unfold recsT
      rw [this]
      rfl
    · intro d hd
      obtain ⟨p, hp', rfl⟩ := List.mem_map.mp hd
      obtain ⟨t, ht, rfl⟩ := List.mem_map.mp hp'
      have ht' := hR.subset ht
      have := look_map (β := Unit) (f := fun t => enc t.new) B.nd ht'
      have e2 : dIx (drRc (dr path sibs R fr)) (.int t.p) = some (enc t.new) := this
      have e3 : dGetD .non (drAd (dr path sibs R fr)) (.int t.p) = some ((dLook (adrsT R) t.p).getD .non) := rfl
      have e4 : (dLook (recsT R) t.p).getD .non = enc t.new := by
        unfold recsT
        rw [this]
        rfl
      unfold fGet1
      walk_at "ev"
      rw [e2, e3]
      walk_at "ev"
      rw [e4]
  have nfr : (- -(fr : Int)).toNat = fr := by omega
  have fzz : (dI (.int (-(fr : Int)))).map (fun i => D.int (-i)) = some (.int (- -(fr : Int))) := rfl
  unfold fn_Draft_entries g_Draft_entries
  walk_at "ev"
  rw [c1 _ rfl]
  walk_at "ev"
  rw [c2]
  walk_at "ev"
  rw [j_r1 (small_ok (by omega) (by omega)), nfr, c3]
  walk_at "ev"
  rw [c4]
  walk_at "ev"
  rw [c5]
  walk_at "ev"
end K32
end
section
set_option Elab.async false
set_option linter.all false
set_option maxRecDepth 100000
set_option maxHeartbeats 1000000
/-! the plan's loop -/
namespace K32
open PySem PySem.Spec PyProof.Rows L2
local macro_rules | `(tactic| walk_at "ev") => `(tactic| simp only [ev_f2, ev_f1, ev_fC, ev_v0, ev_vs, ev_c0, ev_c1, ev_c2, ev_cs, ev_call, ev_all0, ev_all1, ev_tup, ev_lst, ev_T, ev_andT, ev_orT, ev_notT, ev_and, ev_or, ev_not, ev_if, ev_seq, ev_nx, ev_bk, ev_no, ev_set, ev_M, ev_ret, ev_drop, ev_un, ev_ns1, ev_ns0, ev_sl, ev_o0, ev_o1, ev_neg, ev_ch, ev_fz0, ev_fz1, ev_fz2, ev_fz3, ev_fz4, ev_fz5, ev_st0, ev_sts, fn_0, fn_1, fn_2, fn_3, fn_4, fn_5,
  j_b1, j_b2, j_bL, j_cL, j_mD, j_bT, j_andT, j_andF, j_orF, j_orT, j_not, j_bl, j_aDT, j_aDF, j_oDF, j_oDT, j_ifT, j_ifF, j_seqN, j_seqR, j_seqB, j_set, j_pM, j_ret, j_drop, j_un, j_sl, j_some, j_chT, j_chF, j_chP, j_endR, j_endN, j_nones0, j_nonesS, ix0, ix1, ix2, ix3, ix4, ix5,
  d_lt, d_le, d_gt, d_ge, d_addI, d_sub, d_lenL, d_eqI, d_eqS, d_eqNI, d_eqIN, d_eqNN, d_neI, d_neS, d_neNI, d_neIN, d_neNN, d_isNN, d_isNI, d_isNB, d_isNT, d_isND, d_notNN, d_notNI, d_notNT, d_notND, d_slT, d_neg, d_tupT, d_tupL, d_listL, d_dict, d_intI, d_intB,
  List.length_cons, List.length_nil, Nat.reduceAdd, Nat.reduceSub, if_true, if_false, reduceIte, Bool.not_true, Bool.not_false, decide_true, decide_false, Bool.false_eq_true, tI_len, ev_for, ev_r1, ev_r2, ev_r3, ev_iT, ev_iL, ev_lc, ev_yes, j_for, j_iT, j_iTI, j_iL, isi_tup, isi_tI, isi_int, isi_ib, isi_non, dtup_tI, cut51, cut61, cut62, cut605, cut513, cut624, ixm5, ixm6, d_len2, d_len3, d_len4, d_len5, d_len6, s_ll, s_il, s_ii, s_fl, s_fi, s_li, s_ff, s_lf, s_if, eq_self, at_0, at_s, ev_putR, ev_putA, ev_fresh, ev_fld, ev_meth, ev_aM0, ev_aM1, ev_tupM, ev_make, j_fresh, j_fld, j_meth, j_mO, j_aM1, j_aM2, j_tM2, j_make, j_endMR, j_endMN, fnM_0, fnM_1, fnM_2, fnM_4, dr_fr, encS_def, eq_bds, ne_bds, Int.reduceLT, Int.reduceLE, Int.reduceEq, Int.reduceNeg])
local macro_rules | `(tactic| walk_at "evh") => `(tactic| simp only [*, ev_f2, ev_f1, ev_fC, ev_v0, ev_vs, ev_c0, ev_c1, ev_c2, ev_cs, ev_call, ev_all0, ev_all1, ev_tup, ev_lst, ev_T, ev_andT, ev_orT, ev_notT, ev_and, ev_or, ev_not, ev_if, ev_seq, ev_nx, ev_bk, ev_no, ev_set, ev_M, ev_ret, ev_drop, ev_un, ev_ns1, ev_ns0, ev_sl, ev_o0, ev_o1, ev_neg, ev_ch, ev_fz0, ev_fz1, ev_fz2, ev_fz3, ev_fz4, ev_fz5, ev_st0, ev_sts, fn_0, fn_1, fn_2, fn_3, fn_4, fn_5,
  j_b1, j_b2, j_bL, j_cL, j_mD, j_bT, j_andT, j_andF, j_orF, j_orT, j_not, j_bl, j_aDT, j_aDF, j_oDF, j_oDT, j_ifT, j_ifF, j_seqN, j_seqR, j_seqB, j_set, j_pM, j_ret, j_drop, j_un, j_sl, j_some, j_chT, j_chF, j_chP, j_endR, j_endN, j_nones0, j_nonesS, ix0, ix1, ix2, ix3, ix4, ix5,
  d_lt, d_le, d_gt, d_ge, d_addI, d_sub, d_lenL, d_eqI, d_eqS, d_eqNI, d_eqIN, d_eqNN, d_neI, d_neS, d_neNI, d_neIN, d_neNN, d_isNN, d_isNI, d_isNB, d_isNT, d_isND, d_notNN, d_notNI, d_notNT, d_notND, d_slT, d_neg, d_tupT, d_tupL, d_listL, d_dict, d_intI, d_intB,
  List.length_cons, List.length_nil, Nat.reduceAdd, Nat.reduceSub, if_true, if_false, reduceIte, Bool.not_true, Bool.not_false, decide_true, decide_false, Bool.false_eq_true, tI_len, ev_for, ev_r1, ev_r2, ev_r3, ev_iT, ev_iL, ev_lc, ev_yes, j_for, j_iT, j_iTI, j_iL, isi_tup, isi_tI, isi_int, isi_ib, isi_non, dtup_tI, cut51, cut61, cut62, cut605, cut513, cut624, ixm5, ixm6, d_len2, d_len3, d_len4, d_len5, d_len6, s_ll, s_il, s_ii, s_fl, s_fi, s_li, s_ff, s_lf, s_if, eq_self, at_0, at_s, ev_putR, ev_putA, ev_fresh, ev_fld, ev_meth, ev_aM0, ev_aM1, ev_tupM, ev_make, j_fresh, j_fld, j_meth, j_mO, j_aM1, j_aM2, j_tM2, j_make, j_endMR, j_endMN, fnM_0, fnM_1, fnM_2, fnM_4, dr_fr, encS_def, eq_bds, ne_bds, Int.reduceLT, Int.reduceLE, Int.reduceEq, Int.reduceNeg])

theorem u_dr : decide (("done" : Str) = "read") = false := by decide +kernel
theorem u_ds : decide (("done" : Str) = "stale") = false := by decide +kernel
theorem u_dd : decide (("done" : Str) = "done") = true := by decide +kernel
theorem u_ur : decide (("up" : Str) = "read") = false := by decide +kernel
theorem u_us : decide (("up" : Str) = "stale") = false := by decide +kernel
theorem u_ud : decide (("up" : Str) = "done") = false := by decide +kernel
theorem u_rr : decide (("read" : Str) = "read") = true := by decide +kernel
def dn : Nat → List D
  | 0 => [.int 0]
  | i + 1 => .int ((i + 1 : Nat) : Int) :: dn i
theorem rng_dn : ∀ n : Nat, rngD (n : Int) (-1) (n + 1) = dn n
  | 0 => rfl
  | n + 1 => by
    unfold rngD
    rw [List.range_succ_eq_map, List.map_cons, List.map_map]
    show D.int (((n + 1 : Nat) : Int) + ((0 : Nat) : Int) * (-1)) :: _ = D.int ((n + 1 : Nat) : Int) :: dn n
    rw [← rng_dn n, show ((n + 1 : Nat) : Int) + ((0 : Nat) : Int) * (-1) = ((n + 1 : Nat) : Int) by omega]
    refine congrArg (D.int ((n + 1 : Nat) : Int) :: ·) ?_
    unfold rngD
    apply List.map_congr_left
    intro i _
    show D.int (((n + 1 : Nat) : Int) + ((i + 1 : Nat) : Int) * (-1)) = D.int ((n : Int) + (i : Int) * (-1))
    rw [show ((n + 1 : Nat) : Int) + ((i + 1 : Nat) : Int) * (-1) = (n : Int) + (i : Int) * (-1) by omega]
def b_plan : FS := (gSeq (gUn [7, 8] (fMeth fn_Draft_settle 5 [(fVar 6), (fVar 4)]))
  (gSeq (gIf (fT (f2 dEq (fVar 7) (fC (.str "read")))) (gRet (fM (fTup [(fC (.str "read")), (fVar 8)]))) gNx)
  (gSeq (gIf (fT (f2 dEq (fVar 7) (fC (.str "stale")))) (gRet (fM (fTup [(fC (.str "stale"))]))) gNx)
  (gSeq (gIf (fT (f2 dEq (fVar 7) (fC (.str "done")))) gBk gNx)
  (gSet 4 (fM (fVar 8)))))))
section
variable {P : List Pg} {path sibs : List Step} {n : Nat} {r0 r1 : Rc} {lp : Int} {c1 c2 c3 c4 : D}
def envP (c1 c2 c3 c4 : D) (rec : D) (st : Dr) (x y z : Option Sl) : En := [some (.fz c1), some (.fz c2), some (.fz c3), some (.fz c4), some (.fz rec), some (.ob st), x, y, z]
theorem plan_loop (C : Ctx P path sibs) (hn : n + 1 = path.length) : ∀ (i : Nat) (s : Step) (r : Rc) (R : List Tr) (fr : Nat) (x y z : Option Sl), path[i]? = some s → Pend P r0 r1 lp n i s r R fr →
    (∃ R' fr' rec x' y' z', loopS (bName 6) b_plan (dn i) (envP c1 c2 c3 c4 (enc r) (dr path sibs R fr) x y z) = some (.nx (envP c1 c2 c3 c4 rec (dr path sibs R' fr') x' y' z')) ∧ Fin P r0 r1 lp R' fr') ∨
    (∃ q j ρ', loopS (bName 6) b_plan (dn i) (envP c1 c2 c3 c4 (enc r) (dr path sibs R fr) x y z) = some (.rt (.tup [.str "read", .int q]) ρ') ∧ 0 < j ∧ j ≤ n ∧ q = sp path j ∧ dLook (sibsT sibs) q = none ∧ ∃ e ∈ P, e.1 = q) := by
  have hdone : ∀ (i : Nat) (rec : D) (st st' : Dr) (x y z : Option Sl) (ds : List D), fn_Draft_settle st [.int (i : Int), rec] = some (.tup [.str "done", .non], st') →
      loopS (bName 6) b_plan (.int (i : Int) :: ds) (envP c1 c2 c3 c4 rec st x y z) = some (.nx (envP c1 c2 c3 c4 rec st' (some (.fz (.int (i : Int)))) (some (.fz (.str "done"))) (some (.fz .non)))) := fun i rec st st' x y z ds h => by
    refine loop_bk (ρ1 := envP c1 c2 c3 c4 rec st (some (.fz (.int (i : Int)))) y z) rfl ?_
    unfold b_plan envP
    walk_at "ev"
    rw [h]
    walk_at "ev"
    rw [u_dr]
    walk_at "ev"
    rw [u_ds]
    walk_at "ev"
    try rw [u_dd]
    try walk_at "ev"
  have hread : ∀ (i : Nat) (rec : D) (st st' : Dr) (x y z : Option Sl) (ds : List D) (q : Int), fn_Draft_settle st [.int (i : Int), rec] = some (.tup [.str "read", .int q], st') →
      ∃ ρ', loopS (bName 6) b_plan (.int (i : Int) :: ds) (envP c1 c2 c3 c4 rec st x y z) = some (.rt (.tup [.str "read", .int q]) ρ') := fun i rec st st' x y z ds q h => by
    refine ⟨envP c1 c2 c3 c4 rec st' (some (.fz (.int (i : Int)))) (some (.fz (.str "read"))) (some (.fz (.int q))), loop_rt (ρ1 := envP c1 c2 c3 c4 rec st (some (.fz (.int (i : Int)))) y z) rfl ?_⟩
    unfold b_plan envP
    walk_at "ev"
    rw [h]
    walk_at "ev"
    try rw [u_rr]
    try walk_at "ev"
  have hup : ∀ (i : Nat) (rec rec' : D) (st st' : Dr) (x y z : Option Sl) (ds : List D), fn_Draft_settle st [.int (i : Int), rec] = some (.tup [.str "up", rec'], st') →
      loopS (bName 6) b_plan (.int (i : Int) :: ds) (envP c1 c2 c3 c4 rec st x y z) = loopS (bName 6) b_plan ds (envP c1 c2 c3 c4 rec' st' (some (.fz (.int (i : Int)))) (some (.fz (.str "up"))) (some (.fz rec'))) := fun i rec rec' st st' x y z ds h => by
    refine loop_nx (ρ1 := envP c1 c2 c3 c4 rec st (some (.fz (.int (i : Int)))) y z) rfl ?_
    unfold b_plan envP
    walk_at "ev"
    rw [h]
    walk_at "ev"
    rw [u_ur]
    walk_at "ev"
    rw [u_us]
    walk_at "ev"
    rw [u_ud]
    walk_at "ev"
  have hds : ∀ i : Nat, ∃ ds, dn i = .int (i : Int) :: ds := fun i => by cases i <;> exact ⟨_, rfl⟩
  intro i
  induction i with
  | zero =>
    intro s r R fr x y z hs T
    rcases settle_step C hn hs T with ⟨R', fr', e, F⟩ | ⟨i', t, r', R', fr', h, _⟩ | ⟨q, h, _⟩
    · exact .inl ⟨R', fr', _, _, _, _, hdone 0 _ _ _ _ _ _ _ e, F⟩
    · omega
    · omega
  | succ i ih =>
    intro s r R fr x y z hs T
    rcases settle_step C hn hs T with ⟨R', fr', e, F⟩ | ⟨i', t, r', R', fr', h, ht, e, T'⟩ | ⟨q, h1, h2, h3, h4, e, h5⟩
    · exact .inl ⟨R', fr', _, _, _, _, hdone (i + 1) _ _ _ _ _ _ _ e, F⟩
    · obtain rfl : i = i' := by omega
      have e2 := hup (i + 1) _ _ _ _ x y z (dn i) e
      show (∃ R' fr' rec x' y' z', loopS (bName 6) b_plan (.int ((i + 1 : Nat) : Int) :: dn i) _ = _ ∧ _) ∨ (∃ q j ρ', loopS (bName 6) b_plan (.int ((i + 1 : Nat) : Int) :: dn i) _ = _ ∧ _)
      rw [e2]
      exact ih t r' R' fr' _ _ _ ht T'
    · obtain ⟨ρ', e2⟩ := hread (i + 1) _ _ _ x y z (dn i) q e
      exact .inr ⟨q, i + 1, ρ', e2, h1, h2, h3, h4, h5⟩
end
section
variable {P : List Pg} {path sibs : List Step} {n : Nat}
theorem plan_ok (C : Ctx P path sibs) (hn : n + 1 = path.length) {s : Step} (hs : path[n]? = some s) {lo hi : Option Int} {ks vs : List Int} (hr : s.r = .leaf lo hi ks vs) (c : Cl) (cv : geLo lo (keyC c) ∧ ltHi hi (keyC c)) :
    ∃ old : Option Int, (∀ v, (ks.zip vs).count (keyC c, v) = if old = some v then 1 else 0) ∧
    ((∃ a, fn_plan [encC c, .lst (path.map encS), .dic (sibsT sibs)] = some (.tup [.str "answer", a]) ∧ eff c old = old) ∨
     (∃ q j, fn_plan [encC c, .lst (path.map encS), .dic (sibsT sibs)] = some (.tup [.str "read", .int q]) ∧ 0 < j ∧ j ≤ n ∧ q = sp path j ∧ dLook (sibsT sibs) q = none ∧ ∃ e ∈ P, e.1 = q) ∨
     (∃ a R fr r1, fn_plan [encC c, .lst (path.map encS), .dic (sibsT sibs)] = some (.tup [.str "change", a, .lst ((R.map entT).map encE)]) ∧ Plan P s.r r1 s.p R fr ∧ LeafTo c s.r r1 old)) := by
  have X := C.ex
  have hms := C.mem s (List.mem_of_getElem? hs)
  have oks := X.ok _ hms.1 hms.2
  have O : OkL lo hi ks vs := by have := oks.1; simp only [hr] at this; exact this
  have few : ks.length ≤ 4 := by
    have := oks.2.1
    simp only [hr, sz_leaf] at this
    have e : most (.leaf lo hi ks vs) = 4 := rfl
    omega
  have ixl : dIx (.lst (path.map encS)) (.int (-1)) = some (encS s) := by
    show atI (path.map encS) (-((1 : Nat) : Int)) = _
    refine atI_neg ?_ (by omega) (by rw [List.length_map]; omega)
    rw [List.length_map, List.getElem?_map, ← hn, show n + 1 - 1 = n by omega, hs]
    rfl
  have ixr : dIx (encS s) (.int 2) = some (enc (.leaf lo hi ks vs)) := by rw [encS_def, ix2, hr]
  obtain ⟨old, ho, h⟩ := leaf_change_ok c O few cv
  refine ⟨old, ho, ?_⟩
  unfold fn_plan g_plan
  rcases h with ⟨a, e, h⟩ | ⟨a, ks', vs', e, O', l1, l2, L⟩
  · refine .inl ⟨a, ?_, h⟩
    generalize encC c = ec at *
    walk_at "ev"
    rw [ixl]
    simp only [j_b2, ixr]
    walk_at "ev"
    rw [e]
    walk_at "ev"
  · right
    have T : Pend P s.r (.leaf lo hi ks' vs') s.p n n s (.leaf lo hi ks' vs') [] 0 := {
      pg := fun t h => (by cases h), nd := List.nodup_nil, neg := rfl, sized := fun t h => (by cases h)
      ok := O', lr := rfl, lv := by rw [hr]; rfl, lo := by rw [hr]; rfl, hi := by rw [hr]; rfl
      size := by
        have e1 : most (.leaf lo hi ks' vs') = 4 := rfl
        rw [sz_leaf, e1, lvl_leaf]
        refine ⟨by omega, ?_, fun _ => .inl rfl⟩
        by_cases q : n = 0
        · exact .inl ⟨q, rfl⟩
        · right
          rcases oks.2.2 with h | h
          · obtain ⟨m, rfl⟩ : ∃ m, n = m + 1 := ⟨n - 1, by omega⟩
            obtain ⟨t, ht⟩ : ∃ t, path[m]? = some t := ⟨path[m]'(by omega), List.getElem?_eq_getElem (by omega)⟩
            exact absurd h.1 (C.link m t s ht hs).1
          · simp only [hr, sz_leaf] at h
            omega
      bal := fun y => by
        rw [hr]
        rfl
      itm := fun y => by
        simp only [sm_nil]
        omega
      low := fun t h => (by cases h), leaf := .inl rfl, len := by simp, nz := fun t h => (by cases h) }
    have e0 : (⟨.lst (path.map encS), .dic (sibsT sibs), [], [], 0⟩ : Dr) = dr path sibs [] 0 := rfl
    have hpl : ((path.map encS).length : Int) - 1 = (n : Int) := by rw [List.length_map]; omega
    have hsh := C.short
    have hneg : ((n : Int) - (-1)).toNat = n + 1 := by omega
    have lp := plan_loop (c1 := encC c) (c2 := .lst (path.map encS)) (c3 := .dic (sibsT sibs)) (c4 := a) C hn n s (.leaf lo hi ks' vs') [] 0 none none none hs T
    unfold b_plan envP at lp
    generalize encC c = ec at *
    have nn : dIsN (enc (.leaf lo hi ks' vs')) .non = some (.bl false) := rfl
    rcases lp with ⟨R', fr', rec, x', y', z', el, F⟩ | ⟨q, j, ρ', el, h1, h2, h3, h4, h5⟩
    · obtain ⟨R2, hR, ee⟩ := entries_ok (path := path) (sibs := sibs) F.toBase F.len
      refine .inr ⟨a, R2, fr', _, ?_, F.plan hR, by rw [hr]; exact L⟩
      walk_at "ev"
      rw [ixl]
      simp only [j_b2, ixr]
      walk_at "ev"
      rw [e]
      walk_at "ev"
      rw [nn]
      walk_at "ev"
      rw [hpl, j_r3 (by rw [small_ok (by omega) (by omega), small_ok (by omega) (by omega)]; rfl), hneg, rng_dn, e0]
      walk_at "ev"
      rw [el]
      walk_at "ev"
      rw [ee]
      walk_at "ev"
    · refine .inl ⟨q, j, ?_, h1, h2, h3, h4, h5⟩
      walk_at "ev"
      rw [ixl]
      simp only [j_b2, ixr]
      walk_at "ev"
      rw [e]
      walk_at "ev"
      rw [nn]
      walk_at "ev"
      rw [hpl, j_r3 (by rw [small_ok (by omega) (by omega), small_ok (by omega) (by omega)]; rfl), hneg, rng_dn, e0]
      walk_at "ev"
      rw [el]
      walk_at "ev"
end
end K32
end
section
set_option Elab.async false
set_option linter.all false
set_option maxRecDepth 100000
set_option maxHeartbeats 1000000
/-! the tree: who covers a key, how many pages there are -/
namespace K32
open PySem PySem.Spec PyProof.Rows L2
def Cov (lo hi : Option Int) (k : Int) : Prop := geLo lo k ∧ ltHi hi k
theorem kid_cov {lv k : Int} {hi : Option Int} : ∀ {lo : Option Int} {ks ps : List Int} {s : Slot}, ks.Pairwise (· < ·) → (∀ x ∈ ks, gtLo lo x ∧ ltHi hi x) → s ∈ kidsF lv lo hi ks ps → Cov s.2.1 s.2.2.1 k → Cov lo hi k
  | lo, [], p :: ps, s, _, _, h, c => by
    cases List.mem_singleton.mp h
    exact c
  | lo, [], [], s, _, _, h, c => by cases h
  | lo, k0 :: ks, [], s, _, _, h, c => by cases h
  | lo, k0 :: ks, p :: ps, s, asc, ins, h, c => by
    obtain ⟨p1, p2⟩ := List.pairwise_cons.mp asc
    obtain ⟨i1, i2⟩ := ins k0 List.mem_cons_self
    rcases List.mem_cons.mp h with rfl | h
    · refine ⟨c.1, fun x e => ?_⟩
      have h1 := c.2 k0 rfl
      have h2 := i2 x e
      omega
    · obtain ⟨h1, h2⟩ := kid_cov (lo := some k0) p2 (fun x hx => ⟨fun l e => by cases e; exact p1 x hx, (ins x (List.mem_cons_of_mem _ hx)).2⟩) h c
      refine ⟨fun l e => ?_, h2⟩
      have h3 := i1 l e
      have h4 := h1 k0 rfl
      omega
theorem kid_uniq {lv k : Int} {hi : Option Int} : ∀ {lo : Option Int} {ks ps : List Int} {s s' : Slot}, ks.Pairwise (· < ·) → (∀ x ∈ ks, gtLo lo x ∧ ltHi hi x) → s ∈ kidsF lv lo hi ks ps → s' ∈ kidsF lv lo hi ks ps → Cov s.2.1 s.2.2.1 k → Cov s'.2.1 s'.2.2.1 k → s = s'
  | lo, [], p :: ps, s, s', _, _, h, h', _, _ => (List.mem_singleton.mp h).trans (List.mem_singleton.mp h').symm
  | lo, [], [], s, s', _, _, h, _, _, _ => by cases h
  | lo, k0 :: ks, [], s, s', _, _, h, _, _, _ => by cases h
  | lo, k0 :: ks, p :: ps, s, s', asc, ins, h, h', c, c' => by
    obtain ⟨p1, p2⟩ := List.pairwise_cons.mp asc
    have ins' : ∀ x ∈ ks, gtLo (some k0) x ∧ ltHi hi x := fun x hx => ⟨fun l e => by cases e; exact p1 x hx, (ins x (List.mem_cons_of_mem _ hx)).2⟩
    rcases List.mem_cons.mp h with e1 | h1 <;> rcases List.mem_cons.mp h' with e2 | h2
    · exact e1.trans e2.symm
    · subst e1
      have := (kid_cov p2 ins' h2 c').1 k0 rfl
      have := c.2 k0 rfl
      omega
    · subst e2
      have := (kid_cov p2 ins' h1 c).1 k0 rfl
      have := c'.2 k0 rfl
      omega
    · exact kid_uniq p2 ins' h1 h2 c c'
theorem max_of : ∀ {l : List Pg} (f : Pg → Int), (∃ e, e ∈ l) → ∃ e ∈ l, ∀ e' ∈ l, f e' ≤ f e
  | [], f, ⟨e, h⟩ => by cases h
  | [x], f, _ => ⟨x, List.mem_cons_self, fun e' h => by cases List.mem_singleton.mp h; exact Int.le_refl _⟩
  | x :: y :: l, f, _ => by
    obtain ⟨e, he, hm⟩ := max_of (l := y :: l) f ⟨y, List.mem_cons_self⟩
    by_cases q : f x ≤ f e
    · refine ⟨e, List.mem_cons_of_mem _ he, fun e' h' => ?_⟩
      rcases List.mem_cons.mp h' with rfl | h'
      · exact q
      · exact hm e' h'
    · refine ⟨x, List.mem_cons_self, fun e' h' => ?_⟩
      rcases List.mem_cons.mp h' with rfl | h'
      · exact Int.le_refl _
      · have := hm e' h'
        omega
theorem kids_inner {r : Rc} {s : Slot} (h : s ∈ kids r) : ∃ lv lo hi ks ps, r = .inner lv lo hi ks ps ∧ s ∈ kidsF (lv - 1) lo hi ks ps := by
  cases r with
  | inner lv lo hi ks ps => exact ⟨lv, lo, hi, ks, ps, rfl, h⟩
  | _ => cases h
theorem kidsF_lv {lv : Int} {hi : Option Int} : ∀ {lo : Option Int} {ks ps : List Int} {s : Slot}, s ∈ kidsF lv lo hi ks ps → s.2.2.2 = lv
  | lo, [], p :: ps, s, h => by cases List.mem_singleton.mp h; rfl
  | lo, [], [], s, h => by cases h
  | lo, k0 :: ks, [], s, h => by cases h
  | lo, k0 :: ks, p :: ps, s, h => by
    rcases List.mem_cons.mp h with rfl | h
    · rfl
    · exact kidsF_lv h
theorem kids_lv {r : Rc} {s : Slot} (h : s ∈ kids r) : s.2.2.2 = lvl r - 1 ∧ live r := by
  obtain ⟨lv, lo, hi, ks, ps, rfl, h⟩ := kids_inner h
  exact ⟨kidsF_lv h, rfl⟩
section
variable {P : List Pg} (X : Exact P)
include X
theorem Exact.rootMax {a : Int} {r : Rc} (hr : (0, a, r) ∈ P) : ∀ e ∈ P, live e.2.2 → e.1 ≠ 0 → lvl e.2.2 < lvl r := by
  obtain ⟨l1, _, _⟩ := X.root_eq hr
  obtain ⟨m, hm, hmax⟩ := max_of (l := P.filter fun e => decide (isF e.2.2 = false)) (fun e => lvl e.2.2) ⟨_, List.mem_filter.mpr ⟨hr, decide_eq_true l1⟩⟩
  obtain ⟨hm1, hm2⟩ := List.mem_filter.mp hm
  have key : ∀ e ∈ P, live e.2.2 → lvl e.2.2 = lvl m.2.2 → e.1 = 0 := fun e he hl q => by
    by_cases h0 : e.1 = 0
    · exact h0
    · obtain ⟨e', he', hk⟩ := X.parent he h0 hl
      obtain ⟨h1, h2⟩ := kids_lv hk
      have := hmax e' (List.mem_filter.mpr ⟨he', decide_eq_true h2⟩)
      simp only at h1
      omega
  have h0 := key m hm1 (of_decide_eq_true (p := isF m.2.2 = false) hm2) rfl
  have hmr : lvl m.2.2 = lvl r := by
    have := nd_eq X.nd hm1 hr h0
    rw [this]
  intro e he hl h0
  have h1 := hmax e (List.mem_filter.mpr ⟨he, decide_eq_true hl⟩)
  have h2 : lvl e.2.2 ≠ lvl m.2.2 := fun q => h0 (key e he hl q)
  omega
theorem Exact.uniq {k : Int} : ∀ (n : Nat) {e e' : Pg}, e ∈ P → e' ∈ P → live e.2.2 → live e'.2.2 → lvl e.2.2 = lvl e'.2.2 → (∀ x ∈ P, live x.2.2 → lvl x.2.2 ≤ lvl e.2.2 + n) → Cov (lo_ e.2.2) (hi_ e.2.2) k → Cov (lo_ e'.2.2) (hi_ e'.2.2) k → e = e'
  | n, e, e', he, he', hl, hl', hv, hm, hc, hc' => by
    obtain ⟨a, r, hr, l1, _, _⟩ := X.root
    have rm := X.rootMax hr
    by_cases z : e.1 = 0
    · by_cases z' : e'.1 = 0
      · exact nd_eq X.nd he he' (z.trans z'.symm)
      · have e1 : e.2.2 = r := congrArg (fun z : Pg => z.2.2) (nd_eq X.nd he hr z)
        have := rm e' he' hl' z'
        rw [e1] at hv
        omega
    · by_cases z' : e'.1 = 0
      · have e1 : e'.2.2 = r := congrArg (fun z : Pg => z.2.2) (nd_eq X.nd he' hr z')
        have := rm e he hl z
        rw [e1] at hv
        omega
      · obtain ⟨p, hp, hk⟩ := X.parent he z hl
        obtain ⟨p', hp', hk'⟩ := X.parent he' z' hl'
        obtain ⟨v1, pl⟩ := kids_lv hk
        obtain ⟨v2, pl'⟩ := kids_lv hk'
        simp only at v1 v2
        cases n with
        | zero =>
          have := hm p hp pl
          omega
        | succ n =>
          obtain ⟨lv, lo, hi, ks, ps, er, hk⟩ := kids_inner hk
          obtain ⟨lv', lo', hi', ks', ps', er', hk'⟩ := kids_inner hk'
          have O : OkI lv lo hi ks ps := by have := (X.ok p hp pl).1; rw [er] at this; exact this
          have O' : OkI lv' lo' hi' ks' ps' := by have := (X.ok p' hp' pl').1; rw [er'] at this; exact this
          have c1 := kid_cov O.asc O.ins hk hc
          have c2 := kid_cov O'.asc O'.ins hk' hc'
          have ih := Exact.uniq n hp hp' pl pl' (by omega) (fun x hx lx => by have := hm x hx lx; omega) (by rw [er]; exact c1) (by rw [er']; exact c2)
          subst ih
          rw [er] at er'
          cases er'
          have := kid_uniq O.asc O.ins hk hk' hc hc'
          exact nd_eq X.nd he he' (congrArg (fun z : Slot => z.1) this)
theorem Exact.leafOne {k : Int} {e e' : Pg} (he : e ∈ P) (he' : e' ∈ P) (hl : live e.2.2) (hl' : live e'.2.2) (v : lvl e.2.2 = 0) (v' : lvl e'.2.2 = 0) (c : Cov (lo_ e.2.2) (hi_ e.2.2) k) (c' : Cov (lo_ e'.2.2) (hi_ e'.2.2) k) : e = e' := by
  obtain ⟨m, hm, hmax⟩ := max_of (l := P) (fun e => lvl e.2.2) ⟨e, he⟩
  refine X.uniq (lvl m.2.2).toNat he he' hl hl' (v.trans v'.symm) (fun x hx _ => ?_) c c'
  have := hmax x hx
  omega
/-! counting -/
omit X in
theorem sm_le {α : Type} {f g : α → Nat} : ∀ {l : List α}, (∀ e ∈ l, f e ≤ g e) → sm f l ≤ sm g l
  | [], _ => Nat.le_refl _
  | x :: l, h => by
    rw [sm_cons, sm_cons]
    exact Nat.add_le_add (h x List.mem_cons_self) (sm_le fun e he => h e (List.mem_cons_of_mem _ he))
omit X in
theorem sm_eq {α : Type} {f g : α → Nat} {l : List α} (h : ∀ e ∈ l, f e = g e) : sm f l = sm g l := Nat.le_antisymm (sm_le fun e he => Nat.le_of_eq (h e he)) (sm_le fun e he => Nat.le_of_eq (h e he).symm)
omit X in
theorem sm_add {α : Type} {f g : α → Nat} : ∀ {l : List α}, sm (fun e => f e + g e) l = sm f l + sm g l
  | [] => rfl
  | x :: l => by rw [sm_cons, sm_cons, sm_cons, sm_add]; omega
omit X in
theorem sm_mul {α : Type} {f : α → Nat} {n : Nat} : ∀ {l : List α}, sm (fun e => n * f e) l = n * sm f l
  | [] => rfl
  | x :: l => by rw [sm_cons, sm_cons, sm_mul, Nat.mul_add]
omit X in
theorem sm_flat {α β : Type} {f : α → List β} {g : β → Nat} : ∀ {l : List α}, sm g (l.flatMap f) = sm (fun e => sm g (f e)) l
  | [] => rfl
  | x :: l => by
    rw [List.flatMap_cons, sm_cons, ← sm_flat]
    simp [sm]
def liveN (e : Pg) : Nat := if isF e.2.2 = true then 0 else 1
def leafN (e : Pg) : Nat := match e.2.2 with
  | .leaf .. => 1
  | _ => 0
def innN (e : Pg) : Nat := match e.2.2 with
  | .inner .. => 1
  | _ => 0
def zN (e : Pg) : Nat := if e.1 = 0 then 1 else 0
omit X in
theorem zN_sum : ∀ {P : List Pg}, (P.map (·.1)).Nodup → sm zN P ≤ 1 ∧ ((∃ e ∈ P, e.1 = 0) → sm zN P = 1)
  | [], _ => ⟨Nat.zero_le _, fun ⟨e, h, _⟩ => by cases h⟩
  | x :: P, nd => by
    rw [List.map_cons, List.nodup_cons] at nd
    obtain ⟨h1, h2⟩ := zN_sum nd.2
    rw [sm_cons]
    by_cases q : x.1 = 0
    · have e1 : zN x = 1 := if_pos q
      have e2 : sm zN P = 0 := by
        have : sm zN P = sm (fun _ => 0) P := sm_eq fun e he => if_neg fun h => nd.1 (List.mem_map.mpr ⟨e, he, h.trans q.symm⟩)
        rw [this]
        clear h1 h2 nd this
        induction P with
        | nil => rfl
        | cons y P ih => rw [sm_cons, ih]
      rw [e1, e2]
      exact ⟨Nat.le_refl _, fun _ => rfl⟩
    · have e1 : zN x = 0 := if_neg q
      rw [e1, Nat.zero_add]
      refine ⟨h1, fun ⟨e, he, h0⟩ => h2 ⟨e, ?_, h0⟩⟩
      rcases List.mem_cons.mp he with rfl | he
      · exact absurd h0 q
      · exact he
omit X in
theorem perm_sm {α : Type} {f : α → Nat} {l l' : List α} (h : l.Perm l') : sm f l = sm f l' := by
  induction h with
  | nil => rfl
  | cons x _ ih => rw [sm_cons, sm_cons, ih]
  | swap x y l => rw [sm_cons, sm_cons, sm_cons, sm_cons]; omega
  | trans _ _ ih1 ih2 => exact ih1.trans ih2
theorem Exact.sumEq (g : Slot → Nat) : sm (fun e => sm g (kids e.2.2)) P = sm (fun e => sm g (off e.1 e.2.2)) P := by
  rw [← sm_flat, ← sm_flat]
  exact perm_sm X.perm
omit X in
theorem sm_one : ∀ {α : Type} {l : List α}, sm (fun _ => 1) l = l.length
  | _, [] => rfl
  | _, x :: l => by rw [sm_cons, sm_one, List.length_cons]; omega
omit X in
theorem kidsF_len {lv : Int} : ∀ {lo hi : Option Int} {ks ps : List Int}, ps.length = ks.length + 1 → (kidsF lv lo hi ks ps).length = ps.length := fun {lo hi ks ps} h => by
  have := congrArg List.length (kidsF_pages h (lv := lv) (lo := lo) (hi := hi))
  rw [List.length_map] at this
  exact this
theorem Exact.zOne : sm zN P = 1 := by
  obtain ⟨a, r, hr, _⟩ := X.root
  exact (zN_sum X.nd).2 ⟨_, hr, rfl⟩
/-- how many pages there are -/
theorem Exact.count : sm liveN P ≤ sm (fun e => (its e.2.2).length) P + 1 ∧ 2 * sm leafN P ≤ sm (fun e => (its e.2.2).length) P + 2 := by
  have z := X.zOne
  have h1 : sm liveN P = sm (fun e => sm (fun _ => 1) (off e.1 e.2.2)) P + sm zN P := by
    rw [← sm_add]
    refine sm_eq fun e he => ?_
    rw [sm_one]
    by_cases q : e.1 = 0
    · have hl : live e.2.2 := by
        obtain ⟨p, a, r⟩ := e
        obtain rfl : p = 0 := q
        exact (X.root_eq he).1
      have e1 : liveN e = 1 := if_neg (by rw [hl]; decide)
      have e2 : zN e = 1 := if_pos q
      rw [e1, e2, q, off_zero]
      rfl
    · have e2 : zN e = 0 := if_neg q
      rw [e2]
      unfold liveN off
      by_cases l : isF e.2.2 = true
      · rw [if_pos l, if_pos (.inr l)]
        rfl
      · rw [if_neg l, if_neg (fun h => h.elim q l)]
        rfl
  have h2 := X.sumEq (fun _ => 1)
  have h3 : 2 * sm innN P ≤ sm (fun e => sm (fun _ => 1) (kids e.2.2)) P := by
    rw [← sm_mul]
    refine sm_le fun e he => ?_
    rw [sm_one]
    obtain ⟨p, a, r⟩ := e
    cases r with
    | inner lv lo hi ks ps =>
      obtain ⟨O, S⟩ := X.ok _ he rfl
      have O : OkI lv lo hi ks ps := O
      have e1 : (kids (.inner lv lo hi ks ps)).length = ps.length := kidsF_len O.len
      have e2 : innN (p, a, .inner lv lo hi ks ps) = 1 := rfl
      rw [e1, e2]
      rcases S.2 with h | h
      · have := O.lv
        have h := h.2
        simp only [lvl_inner] at h
        omega
      · exact h
    | _ => exact Nat.zero_le _
  have h4 : sm liveN P = sm leafN P + sm innN P := by
    rw [← sm_add]
    refine sm_eq fun e he => ?_
    obtain ⟨p, a, r⟩ := e
    cases r <;> rfl
  have h5 : 2 * sm leafN P ≤ sm (fun e => (its e.2.2).length) P + 2 * sm zN P := by
    rw [← sm_mul, ← sm_mul, ← sm_add]
    refine sm_le fun e he => ?_
    obtain ⟨p, a, r⟩ := e
    cases r with
    | leaf lo hi ks vs =>
      obtain ⟨O, S⟩ := X.ok _ he rfl
      have O : OkL lo hi ks vs := O
      have e1 : (its (.leaf lo hi ks vs)).length = ks.length := by
        show (ks.zip vs).length = _
        rw [List.length_zip, O.len, Nat.min_self]
      have e2 : leafN (p, a, .leaf lo hi ks vs) = 1 := rfl
      rcases S.2 with h | h
      · have e3 : zN (p, a, .leaf lo hi ks vs) = 1 := if_pos h.1
        rw [e2, e3]
        omega
      · have h : 2 ≤ ks.length := h
        simp only [e1, e2]
        omega
    | _ => exact Nat.zero_le _
  omega
/-- how deep it is -/
def w2 (s : Slot) : Nat := 2 ^ s.2.2.2.toNat
omit X in
theorem sm_const {α : Type} {f : α → Nat} {c : Nat} : ∀ {l : List α}, (∀ e ∈ l, f e = c) → sm f l = l.length * c
  | [], _ => by simp [sm_nil]
  | x :: l, h => by
    rw [sm_cons, h x List.mem_cons_self, sm_const fun e he => h e (List.mem_cons_of_mem _ he), List.length_cons, Nat.add_mul]
    omega
theorem Exact.deep {a : Int} {r : Rc} (hr : (0, a, r) ∈ P) : 2 ^ (lvl r).toNat ≤ sm leafN P := by
  have z := X.zOne
  have h2 := X.sumEq w2
  have h1 : sm (fun e => liveN e * 2 ^ (lvl e.2.2).toNat) P = sm (fun e => sm w2 (off e.1 e.2.2)) P + 2 ^ (lvl r).toNat * sm zN P := by
    rw [← sm_mul, ← sm_add]
    refine sm_eq fun e he => ?_
    by_cases q : e.1 = 0
    · have e0 := nd_eq X.nd he hr q
      have hl : live e.2.2 := by rw [e0]; exact (X.root_eq hr).1
      have e1 : liveN e = 1 := if_neg (by rw [hl]; decide)
      have e2 : zN e = 1 := if_pos q
      have e3 : lvl e.2.2 = lvl r := by rw [e0]
      rw [e1, e2, q, off_zero, e3, sm_nil]
      omega
    · have e2 : zN e = 0 := if_neg q
      rw [e2]
      unfold liveN off
      by_cases l : isF e.2.2 = true
      · rw [if_pos l, if_pos (.inr l), sm_nil]
        omega
      · rw [if_neg l, if_neg (fun h => h.elim q l), sm_cons, sm_nil]
        show _ = 2 ^ (lvl e.2.2).toNat + 0 + _
        omega
  have h3 : sm (fun e => liveN e * 2 ^ (lvl e.2.2).toNat) P ≤ sm leafN P + sm (fun e => sm w2 (kids e.2.2)) P := by
    rw [← sm_add]
    refine sm_le fun e he => ?_
    obtain ⟨p, a, r⟩ := e
    cases r with
    | inner lv lo hi ks ps =>
      obtain ⟨O, S⟩ := X.ok _ he rfl
      have O : OkI lv lo hi ks ps := O
      have e1 : (kids (.inner lv lo hi ks ps)).length = ps.length := kidsF_len O.len
      have e2 : sm w2 (kids (.inner lv lo hi ks ps)) = (kids (.inner lv lo hi ks ps)).length * 2 ^ (lv - 1).toNat := sm_const fun s hs => by
        have := (kids_lv hs).1
        unfold w2
        rw [this]
        rfl
      have e3 : leafN (p, a, .inner lv lo hi ks ps) = 0 := rfl
      have e4 : liveN (p, a, .inner lv lo hi ks ps) = 1 := rfl
      have hp : 2 ≤ ps.length := by
        rcases S.2 with h | h
        · have := O.lv
          have h := h.2
          simp only [lvl_inner] at h
          omega
        · exact h
      have lv1 := O.lv
      simp only [e2, e1, e3, e4, lvl_inner]
      have e5 : lv.toNat = (lv - 1).toNat + 1 := by omega
      rw [e5, Nat.pow_succ]
      have := Nat.mul_le_mul_right (2 ^ (lv - 1).toNat) hp
      omega
    | leaf lo hi ks vs =>
      show 1 * 2 ^ 0 ≤ 1 + _
      omega
    | free n =>
      show 0 * _ ≤ _
      omega
  rw [z, Nat.mul_one] at h1
  omega
end
end K32
end
section
set_option Elab.async false
set_option linter.all false
set_option maxRecDepth 100000
set_option maxHeartbeats 1000000
/-! evaluation: lists and dicts of one's own -/
namespace K32
open PySem PySem.Spec PyProof.Rows L2
def getS (i : Nat) (ρ : En) : Option (Option Sl) := ρ[i]?
def appO : Option (Option Sl) → Option D → Nat → En → Option Out
  | some (some (.ol ds)), some d, i, ρ => if ds.length < 100000 then some (.nx (ρ.set i (some (.ol (ds ++ [d]))))) else none
  | _, _, _, _ => none
def putO : Option D → Option D → Option (Option Sl) → Nat → En → Option Out
  | some (.int n), some d, some (some (.od es)), i, ρ => if es.length < 100000 then some (.nx (ρ.set i (some (.od (dPut es n d))))) else none
  | _, _, _, _, _ => none
def popO : Option D → Option (Option Sl) → Nat → En → Option Out
  | some (.int n), some (some (.od es)), i, ρ => if (dLook es n).isSome then some (.nx (ρ.set i (some (.od (dDrop es n))))) else none
  | _, _, _, _ => none
def ownLO (i : Nat) : Option (List D) → En → Option Out
  | some ds, ρ => some (.nx (ρ.set i (some (.ol ds))))
  | none, _ => none
def ownCO (i : Nat) : Option D → En → Option Out
  | some (.dic es), ρ => some (.nx (ρ.set i (some (.od es))))
  | _, _ => none
def b3 (op : D → D → D → Option D) : Option D → Option D → Option D → Option D
  | some x, some y, some w => op w x y
  | _, _, _ => none
section
variable {f fk fv fa fc fd : FD} {ρ : En} {i n : Nat} {x : Option Sl} {l : List FD} {d : D} {ds : List D} {es : List (Int × D)} {k : Int} {a b c : D}
theorem gs_0 : getS 0 (x :: ρ) = some x := rfl
theorem gs_s : getS (n + 1) (x :: ρ) = getS n ρ := rfl
theorem ev_app : gApp i f ρ = appO (getS i ρ) (f ρ) i ρ := by
  unfold gApp getS
  cases ρ[i]? with
  | none => rfl
  | some s => cases s with
    | none => rfl
    | some s => cases s <;> first | rfl | (cases f ρ <;> rfl)
theorem ev_put : gPut i fk fv ρ = putO (fk ρ) (fv ρ) (getS i ρ) i ρ := by
  unfold gPut getS
  cases fv ρ with
  | none => cases fk ρ with
    | none => rfl
    | some k => cases k <;> rfl
  | some d => cases fk ρ with
    | none => rfl
    | some k => cases k with
      | int j =>
        show (match (D.int j), ρ[i]? with
          | .int n, some (some (.od es)) => if es.length < 100000 then some (.nx (ρ.set i (some (.od (dPut es n d))))) else none
          | _, _ => none) = putO (some (.int j)) (some d) ρ[i]? i ρ
        cases ρ[i]? with
        | none => rfl
        | some s => cases s with
          | none => rfl
          | some s => cases s <;> rfl
      | _ => rfl
theorem ev_pop : gPop i fk ρ = popO (fk ρ) (getS i ρ) i ρ := by
  unfold gPop getS
  cases fk ρ with
  | none => rfl
  | some k => cases k with
    | int j =>
      show (match (D.int j), ρ[i]? with
        | .int n, some (some (.od es)) => if (dLook es n).isSome then some (.nx (ρ.set i (some (.od (dDrop es n))))) else none
        | _, _ => none) = popO (some (.int j)) ρ[i]? i ρ
      cases ρ[i]? with
      | none => rfl
      | some s => cases s with
        | none => rfl
        | some s => cases s <;> rfl
    | _ => rfl
theorem ev_ownL : gOwnL i l ρ = ownLO i (fAll l ρ) ρ := by unfold gOwnL; cases fAll l ρ <;> rfl
theorem ev_ownD : gOwnD i ρ = some (.nx (ρ.set i (some (.od [])))) := rfl
theorem ev_ownC : gOwnC i f ρ = ownCO i (f ρ) ρ := by
  unfold gOwnC
  cases f ρ with
  | none => rfl
  | some d => cases d <;> rfl
theorem ev_get2 : fGet2 fa fc fd ρ = b3 dGetD (fa ρ) (fc ρ) (fd ρ) := by
  unfold fGet2
  cases fa ρ <;> cases fc ρ <;> cases fd ρ <;> rfl
theorem j_app (h : ds.length < 100000) : appO (some (some (.ol ds))) (some d) i ρ = some (.nx (ρ.set i (some (.ol (ds ++ [d]))))) := if_pos h
theorem j_put (h : es.length < 100000) : putO (some (.int k)) (some d) (some (some (.od es))) i ρ = some (.nx (ρ.set i (some (.od (dPut es k d))))) := if_pos h
theorem j_ownL : ownLO i (some ds) ρ = some (.nx (ρ.set i (some (.ol ds)))) := rfl
theorem j_ownC : ownCO i (some (.dic es)) ρ = some (.nx (ρ.set i (some (.od es)))) := rfl
theorem j_b3 {op : D → D → D → Option D} : b3 op (some a) (some b) (some c) = op c a b := rfl
theorem d_get : dGetD d (.dic es) (.int k) = some ((dLook es k).getD d) := rfl
end
def encP (P : List Pg) : List (Int × D) := P.map fun e => (e.1, .tup [.int e.2.1, enc e.2.2])
theorem lookP : ∀ {P : List Pg} {e : Pg}, (P.map (·.1)).Nodup → e ∈ P → dLook (encP P) e.1 = some (.tup [.int e.2.1, enc e.2.2])
  | x :: P, e, nd, h => by
    rw [List.map_cons, List.nodup_cons] at nd
    unfold dLook encP
    rw [List.map_cons, List.find?_cons]
    rcases List.mem_cons.mp h with rfl | h1
    · simp
    · have : x.1 ≠ e.1 := fun q => nd.1 (List.mem_map.mpr ⟨e, h1, q.symm⟩)
      simp only [decide_eq_false this]
      exact lookP nd.2 h1
theorem look_some {P : List Pg} {p : Int} {d : D} (h : dLook (encP P) p = some d) : ∃ e ∈ P, e.1 = p ∧ d = .tup [.int e.2.1, enc e.2.2] := by
  unfold dLook at h
  obtain ⟨y, h1, h2⟩ := Option.map_eq_some_iff.mp h
  have h3 := List.mem_of_find?_eq_some h1
  have h4 := List.find?_some h1
  obtain ⟨e, he, rfl⟩ := List.mem_map.mp h3
  exact ⟨e, he, of_decide_eq_true h4, h2.symm⟩
theorem encP_len {P : List Pg} : (encP P).length = P.length := List.length_map _
theorem nodup_bound : ∀ {n : Nat} {l : List Int}, l.Nodup → (∀ x ∈ l, 0 ≤ x ∧ x < n) → l.length ≤ n
  | 0, [], _, _ => Nat.le_refl _
  | 0, x :: l, _, h => by
    have := h x List.mem_cons_self
    omega
  | n + 1, l, nd, h => by
    by_cases q : (n : Int) ∈ l
    · have h1 := nodup_bound (n := n) (l := l.erase (n : Int)) (nd.erase _) fun x hx => by
        have h2 := h x (List.mem_of_mem_erase hx)
        have h3 : x ≠ n := fun e => by
          subst e
          exact (List.Nodup.not_mem_erase nd) hx
        omega
      rw [List.length_erase_of_mem q] at h1
      omega
    · have := nodup_bound (n := n) nd fun x hx => by
        have h2 := h x hx
        have h3 : x ≠ n := fun e => q (e ▸ hx)
        omega
      omega
theorem Exact.len {P : List Pg} (X : Exact P) : P.length ≤ 200 := by
  have := nodup_bound (n := 200) X.nd fun x hx => by
    obtain ⟨e, he, rfl⟩ := List.mem_map.mp hx
    exact X.rng e he
  rwa [List.length_map] at this
end K32
end
section
set_option Elab.async false
set_option linter.all false
set_option maxRecDepth 100000
set_option maxHeartbeats 1000000
/-! the law's walk, the law's plans -/
namespace K32
open PySem PySem.Spec PyProof.Rows L2
local macro_rules | `(tactic| walk_at "ev") => `(tactic| simp only [ev_f2, ev_f1, ev_fC, ev_v0, ev_vs, ev_c0, ev_c1, ev_c2, ev_cs, ev_call, ev_all0, ev_all1, ev_tup, ev_lst, ev_T, ev_andT, ev_orT, ev_notT, ev_and, ev_or, ev_not, ev_if, ev_seq, ev_nx, ev_bk, ev_no, ev_set, ev_M, ev_ret, ev_drop, ev_un, ev_ns1, ev_ns0, ev_sl, ev_o0, ev_o1, ev_neg, ev_ch, ev_fz0, ev_fz1, ev_fz2, ev_fz3, ev_fz4, ev_fz5, ev_st0, ev_sts, fn_0, fn_1, fn_2, fn_3, fn_4, fn_5,
  j_b1, j_b2, j_bL, j_cL, j_mD, j_bT, j_andT, j_andF, j_orF, j_orT, j_not, j_bl, j_aDT, j_aDF, j_oDF, j_oDT, j_ifT, j_ifF, j_seqN, j_seqR, j_seqB, j_set, j_pM, j_ret, j_drop, j_un, j_sl, j_some, j_chT, j_chF, j_chP, j_endR, j_endN, j_nones0, j_nonesS, ix0, ix1, ix2, ix3, ix4, ix5,
  d_lt, d_le, d_gt, d_ge, d_addI, d_sub, d_lenL, d_eqI, d_eqS, d_eqNI, d_eqIN, d_eqNN, d_neI, d_neS, d_neNI, d_neIN, d_neNN, d_isNN, d_isNI, d_isNB, d_isNT, d_isND, d_notNN, d_notNI, d_notNT, d_notND, d_slT, d_neg, d_tupT, d_tupL, d_listL, d_dict, d_intI, d_intB,
  List.length_cons, List.length_nil, Nat.reduceAdd, Nat.reduceSub, if_true, if_false, reduceIte, Bool.not_true, Bool.not_false, decide_true, decide_false, Bool.false_eq_true, tI_len, ev_for, ev_r1, ev_r2, ev_r3, ev_iT, ev_iL, ev_lc, ev_yes, j_for, j_iT, j_iTI, j_iL, isi_tup, isi_tI, isi_int, isi_ib, isi_non, dtup_tI, cut51, cut61, cut62, cut605, cut513, cut624, ixm5, ixm6, d_len2, d_len3, d_len4, d_len5, d_len6, s_ll, s_il, s_ii, s_fl, s_fi, s_li, s_ff, s_lf, s_if, eq_self, gs_0, gs_s, ev_app, ev_put, ev_pop, ev_ownL, ev_ownD, ev_ownC, ev_get2, j_ownL, j_ownC, j_b3, d_get, at_0, at_s, ev_putR, ev_putA, ev_fresh, ev_fld, ev_meth, ev_aM0, ev_aM1, ev_tupM, ev_make, j_fresh, j_fld, j_meth, j_mO, j_aM1, j_aM2, j_tM2, j_make, j_endMR, j_endMN, fnM_0, fnM_1, fnM_2, fnM_4, dr_fr, encS_def, eq_bds, ne_bds, Int.reduceLT, Int.reduceLE, Int.reduceEq, Int.reduceNeg])
local macro_rules | `(tactic| walk_at "evh") => `(tactic| simp only [*, ev_f2, ev_f1, ev_fC, ev_v0, ev_vs, ev_c0, ev_c1, ev_c2, ev_cs, ev_call, ev_all0, ev_all1, ev_tup, ev_lst, ev_T, ev_andT, ev_orT, ev_notT, ev_and, ev_or, ev_not, ev_if, ev_seq, ev_nx, ev_bk, ev_no, ev_set, ev_M, ev_ret, ev_drop, ev_un, ev_ns1, ev_ns0, ev_sl, ev_o0, ev_o1, ev_neg, ev_ch, ev_fz0, ev_fz1, ev_fz2, ev_fz3, ev_fz4, ev_fz5, ev_st0, ev_sts, fn_0, fn_1, fn_2, fn_3, fn_4, fn_5,
  j_b1, j_b2, j_bL, j_cL, j_mD, j_bT, j_andT, j_andF, j_orF, j_orT, j_not, j_bl, j_aDT, j_aDF, j_oDF, j_oDT, j_ifT, j_ifF, j_seqN, j_seqR, j_seqB, j_set, j_pM, j_ret, j_drop, j_un, j_sl, j_some, j_chT, j_chF, j_chP, j_endR, j_endN, j_nones0, j_nonesS, ix0, ix1, ix2, ix3, ix4, ix5,
  d_lt, d_le, d_gt, d_ge, d_addI, d_sub, d_lenL, d_eqI, d_eqS, d_eqNI, d_eqIN, d_eqNN, d_neI, d_neS, d_neNI, d_neIN, d_neNN, d_isNN, d_isNI, d_isNB, d_isNT, d_isND, d_notNN, d_notNI, d_notNT, d_notND, d_slT, d_neg, d_tupT, d_tupL, d_listL, d_dict, d_intI, d_intB,
  List.length_cons, List.length_nil, Nat.reduceAdd, Nat.reduceSub, if_true, if_false, reduceIte, Bool.not_true, Bool.not_false, decide_true, decide_false, Bool.false_eq_true, tI_len, ev_for, ev_r1, ev_r2, ev_r3, ev_iT, ev_iL, ev_lc, ev_yes, j_for, j_iT, j_iTI, j_iL, isi_tup, isi_tI, isi_int, isi_ib, isi_non, dtup_tI, cut51, cut61, cut62, cut605, cut513, cut624, ixm5, ixm6, d_len2, d_len3, d_len4, d_len5, d_len6, s_ll, s_il, s_ii, s_fl, s_fi, s_li, s_ff, s_lf, s_if, eq_self, gs_0, gs_s, ev_app, ev_put, ev_pop, ev_ownL, ev_ownD, ev_ownC, ev_get2, j_ownL, j_ownC, j_b3, d_get, at_0, at_s, ev_putR, ev_putA, ev_fresh, ev_fld, ev_meth, ev_aM0, ev_aM1, ev_tupM, ev_make, j_fresh, j_fld, j_meth, j_mO, j_aM1, j_aM2, j_tM2, j_make, j_endMR, j_endMN, fnM_0, fnM_1, fnM_2, fnM_4, dr_fr, encS_def, eq_bds, ne_bds, Int.reduceLT, Int.reduceLE, Int.reduceEq, Int.reduceNeg])

structure WOk (P : List Pg) (k L : Int) (w : List Step) : Prop where
  mem : ∀ s ∈ w, (s.p, s.a, s.r) ∈ P ∧ live s.r
  zero : ∀ s, w[0]? = some s → s.p = 0
  link : ∀ i t s, w[i]? = some t → w[i + 1]? = some s → s.p ≠ 0 ∧ ∃ lv lo hi a b c d, t.r = .inner lv lo hi (a ++ b) (c ++ s.p :: d) ∧ a.length = c.length ∧ b.length = d.length ∧ lo_ s.r = endL lo a ∧ hi_ s.r = headR hi b ∧ lvl s.r = lv - 1
  cov : ∀ s ∈ w, Cov (lo_ s.r) (hi_ s.r) k
  lvs : ∀ (i : Nat) s, w[i]? = some s → lvl s.r = L - i
theorem snoc_get {α : Type} {u : List α} {x y : α} {i : Nat} (h : (u ++ [x])[i]? = some y) : u[i]? = some y ∨ (i = u.length ∧ y = x) := by
  by_cases q : i < u.length
  · rw [List.getElem?_append_left q] at h
    exact .inl h
  · rw [List.getElem?_append_right (by omega)] at h
    have : i - u.length = 0 := by
      by_cases q2 : i - u.length = 0
      · exact q2
      · rw [List.getElem?_eq_none (by simp; omega)] at h
        cases h
    rw [this] at h
    cases h
    exact .inr ⟨by omega, rfl⟩
theorem WOk.snoc {P : List Pg} {k L : Int} {u : List Step} {t s : Step} (W : WOk P k L (u ++ [t])) (hm : (s.p, s.a, s.r) ∈ P ∧ live s.r) (hl : s.p ≠ 0 ∧ ∃ lv lo hi a b c d, t.r = .inner lv lo hi (a ++ b) (c ++ s.p :: d) ∧ a.length = c.length ∧ b.length = d.length ∧ lo_ s.r = endL lo a ∧ hi_ s.r = headR hi b ∧ lvl s.r = lv - 1)
    (hc : Cov (lo_ s.r) (hi_ s.r) k) : WOk P k L (u ++ [t] ++ [s]) where
  mem := fun x hx => by
    rcases List.mem_append.mp hx with hx | hx
    · exact W.mem x hx
    · cases List.mem_singleton.mp hx
      exact hm
  zero := fun x hx => by
    rcases snoc_get hx with hx | ⟨h, _⟩
    · exact W.zero x hx
    · simp at h
  link := fun i t' s' h1 h2 => by
    rcases snoc_get h2 with h3 | ⟨h3, rfl⟩
    · have hi : i + 1 < (u ++ [t]).length := (List.getElem?_eq_some_iff.mp h3).1
      rw [List.getElem?_append_left (by omega)] at h1
      exact W.link i t' s' h1 h3
    · have hi : i = u.length := by
        simp only [List.length_append, List.length_cons, List.length_nil] at h3
        omega
      rw [List.getElem?_append_left (by simp; omega)] at h1
      rcases snoc_get h1 with h1 | ⟨_, rfl⟩
      · have := (List.getElem?_eq_some_iff.mp h1).1
        omega
      · exact hl
  cov := fun x hx => by
    rcases List.mem_append.mp hx with hx | hx
    · exact W.cov x hx
    · cases List.mem_singleton.mp hx
      exact hc
  lvs := fun i x hx => by
    rcases snoc_get hx with hx | ⟨h, rfl⟩
    · exact W.lvs i x hx
    · have h1 := W.lvs u.length t (by simp)
      obtain ⟨_, lv, lo, hi, a, b, c, d, e, _, _, _, _, e2⟩ := hl
      rw [e, lvl_inner] at h1
      simp only [List.length_append, List.length_cons, List.length_nil] at h
      omega
def lek (k : Int) (d : D) : Bool := match d with
    | .int x => decide (x ≤ k)
    | _ => false
theorem cnt_le {a b : List Int} {k : Int} {x y z u v w : Option Sl} (h : (a ++ b).length ≤ 100000) (ha : ∀ x ∈ a, x ≤ k) (hb : ∀ x ∈ b, k < x) :
    lcO (some ((a ++ b).map D.int)) (fT (f2 dLe (fVar 6) (fVar 1))) (fVar 6) 6 [u, some (.fz (.int k)), v, w, x, y, z] = some (.lst (a.map D.int)) := by
  rw [j_lc (by rw [List.length_map]; exact h), comp_eq (lek k) id fun d hd => by
    obtain ⟨x, hx, rfl⟩ := List.mem_map.mp hd
    exact ⟨rfl, fun _ => rfl⟩]
  rw [List.map_id, List.filter_map, List.filter_append]
  have e1 : a.filter (lek k ∘ D.int) = a := List.filter_eq_self.mpr fun x hx => decide_eq_true (ha x hx)
  have e2 : b.filter (lek k ∘ D.int) = [] := List.filter_eq_nil_iff.mpr fun x hx => by
    have := hb x hx
    simp [lek, this]
  rw [e1, e2, List.append_nil]
  rfl
theorem split_le {ks : List Int} (asc : ks.Pairwise (· < ·)) (k : Int) : ∃ a b, ks = a ++ b ∧ (∀ x ∈ a, x ≤ k) ∧ (∀ x ∈ b, k < x) := by
  induction ks with
  | nil => exact ⟨[], [], rfl, by simp, by simp⟩
  | cons x ks ih =>
    obtain ⟨p1, p2⟩ := List.pairwise_cons.mp asc
    by_cases q : x ≤ k
    · obtain ⟨a, b, rfl, h1, h2⟩ := ih p2
      refine ⟨x :: a, b, rfl, fun y hy => ?_, h2⟩
      rcases List.mem_cons.mp hy with rfl | hy
      · exact q
      · exact h1 y hy
    · refine ⟨[], x :: ks, rfl, by simp, fun y hy => ?_⟩
      rcases List.mem_cons.mp hy with rfl | hy
      · omega
      · have := p1 y hy
        omega
theorem endL_cov {k : Int} : ∀ {lo : Option Int} {a : List Int}, (∀ x ∈ a, x ≤ k) → geLo lo k → geLo (endL lo a) k
  | lo, [], _, h => h
  | lo, x :: a, h, _ => endL_cov (lo := some x) (a := a) (fun y hy => h y (List.mem_cons_of_mem _ hy)) fun l e => by cases e; exact h x List.mem_cons_self
theorem headR_cov {k : Int} {hi : Option Int} : ∀ {b : List Int}, (∀ x ∈ b, k < x) → ltHi hi k → ltHi (headR hi b) k
  | [], _, h => h
  | y :: b, h, _ => fun l e => by cases e; exact h y List.mem_cons_self
def b_walk : FS := (gSeq (gSet 4 (fM (f2 dIx (f2 dIx (fVarC 2) (fNeg (fC (.int 1)))) (fC (.int 2)))))
  (gIf (fT (f2 dEq (f2 dIx (fVar 4) (fC (.int 0))) (fC (.str "inner")))) (gSeq (gSet 5 (fM (f2 dIx (f2 dIx (fVar 4) (fC (.int 5))) (f1 dLen (fLc (iT (f2 dIx (fVar 4) (fC (.int 4)))) (fT (f2 dLe (fVar 6) (fVar 1))) (fVar 6) 6)))))
  (gApp 2 (fTup [(fVar 5), (f2 dIx (f2 dIx (fVar 0) (fVar 5)) (fC (.int 0))), (f2 dIx (f2 dIx (fVar 0) (fVar 5)) (fC (.int 1))), (f2 dAdd (fVar 3) (fC (.int 2)))]))) gNx))
theorem ix_last {ds : List D} {d : D} : dIx (.lst (ds ++ [d])) (.int (-1)) = some d := by
  show atI (ds ++ [d]) (-((1 : Nat) : Int)) = _
  refine atI_neg ?_ (by omega) (by simp)
  simp
theorem walk_ok {P : List Pg} (X : Exact P) {k L a0 : Int} {rr : Rc} (hr : (0, a0, rr) ∈ P) (hL : lvl rr = L) (hL2 : L ≤ 8) :
    ∃ u s, fn_law_walk [.dic (encP P), .int k] = some (.lst ((u ++ [s]).map encS)) ∧ WOk P k L (u ++ [s]) ∧ lvl s.r = 0 := by
  obtain ⟨l0, lo0, hi0⟩ := X.root_eq hr
  have look0 : dIx (.dic (encP P)) (.int 0) = some (.tup [.int a0, enc rr]) := lookP X.nd hr
  let s0 : Step := ⟨0, a0, rr, 1⟩
  have W0 : WOk P k L ([] ++ [s0]) := ⟨fun s hs => by cases List.mem_singleton.mp hs; exact ⟨hr, l0⟩, fun s hs => by cases hs; rfl, fun i t s h1 h2 => by simp at h2, fun s hs => by
      cases List.mem_singleton.mp hs
      show Cov (lo_ rr) (hi_ rr) k
      rw [lo0, hi0]
      exact ⟨fun l e => (by cases e), fun l e => (by cases e)⟩, fun i s hs => by
      rcases snoc_get hs with h | ⟨h, rfl⟩
      · simp at h
      · rw [h]
        show lvl rr = L - ((0 : Nat) : Int)
        omega⟩
  have eS : encS s0 = .tup [.int 0, .int a0, enc rr, .int 1] := rfl
  have turn := loop_inv (bi := bName 3) (body := b_walk) (ds := rngD 0 1 20)
    (fun t ρ => ∃ u s x3 x4 x5, ρ = [some (.fz (.dic (encP P))), some (.fz (.int k)), some (.ol ((u ++ [s]).map encS)), x3, x4, x5, none] ∧ WOk P k L (u ++ [s]) ∧ (lvl s.r = 0 ∨ u.length = t) ∧ u.length ≤ 30)
    (ρ := [some (.fz (.dic (encP P))), some (.fz (.int k)), some (.ol ((([] : List Step) ++ [s0]).map encS)), none, none, none, none]) 0 ⟨[], s0, none, none, none, rfl, W0, .inr rfl, by simp⟩ (by
      rintro i d ρ hd ⟨u, s, x3, x4, x5, rfl, W, hl, hu⟩
      obtain ⟨hin, rfl⟩ := rngD_get hd
      have hms := W.mem s (by simp)
      have oks := (X.ok _ hms.1 hms.2).1
      simp only at oks
      have il : dIx (.lst ((u ++ [s]).map encS)) (.int (-1)) = some (encS s) := by
        rw [List.map_append]
        exact ix_last
      cases hsr : s.r with
      | free n => rw [hsr] at hms; cases hms.2
      | leaf lo hi ks vs =>
        refine ⟨[some (.fz (.dic (encP P))), some (.fz (.int k)), some (.ol ((u ++ [s]).map encS)), some (.fz (.int (0 + (i : Int) * 1))), x4, x5, none], [some (.fz (.dic (encP P))), some (.fz (.int k)), some (.ol ((u ++ [s]).map encS)), some (.fz (.int (0 + (i : Int) * 1))), some (.fz (enc s.r)), x5, none], rfl, ?_, u, s, _, _, _, rfl, W, .inl (by rw [hsr]; rfl), hu⟩
        unfold b_walk
        walk_at "ev"
        rw [il]
        walk_at "ev"
        rw [hsr, enc_leaf]
        walk_at "ev"
      | inner lv lo hi ks ps =>
        have O : OkI lv lo hi ks ps := by rw [hsr] at oks; exact oks
        have hc := W.cov s (by simp)
        rw [hsr, lo_inner, hi_inner] at hc
        obtain ⟨a, b, rfl, ha, hb⟩ := split_le O.asc k
        have len := O.len
        have few := O.few
        simp only [List.length_append] at len few
        obtain ⟨c, p, d, rfl, e1, e2⟩ := split_at1 (l := ps) (n := a.length) (by omega)
        have e2' : b.length = d.length := by omega
        have hk : (p, endL lo a, headR hi b, lv - 1) ∈ kids s.r := by
          rw [hsr]
          show _ ∈ kidsF _ _ _ (a ++ b) (c ++ p :: d)
          rw [kids1 e1.symm e2']
          simp
        obtain ⟨e, he, hq, h0, hle⟩ := X.child hms.1 hk
        have q1 : p = e.1 := congrArg (fun z : Slot => z.1) hq
        have q2 : endL lo a = lo_ e.2.2 := congrArg (fun z : Slot => z.2.1) hq
        have q3 : headR hi b = hi_ e.2.2 := congrArg (fun z : Slot => z.2.2.1) hq
        have q4 : lv - 1 = lvl e.2.2 := congrArg (fun z : Slot => z.2.2.2) hq
        have lk : dIx (.dic (encP P)) (.int p) = some (.tup [.int e.2.1, enc e.2.2]) := by rw [q1]; exact lookP X.nd he
        have ixp : dIx (tI (c ++ p :: d)) (.int (a.length : Int)) = some (.int p) := ix_mid (by omega)
        let s2 : Step := ⟨p, e.2.1, e.2.2, 0 + (i : Int) * 1 + 2⟩
        have es2 : encS s2 = .tup [.int p, .int e.2.1, enc e.2.2, .int (0 + (i : Int) * 1 + 2)] := rfl
        have W2 : WOk P k L (u ++ [s] ++ [s2]) := W.snoc ⟨by show (p, e.2.1, e.2.2) ∈ P; rw [q1]; exact he, hle⟩ ⟨by show p ≠ 0; rw [q1]; exact h0, lv, lo, hi, a, b, c, d, hsr, e1.symm, e2', q2.symm, q3.symm, q4.symm⟩ (by
          show Cov (lo_ e.2.2) (hi_ e.2.2) k
          rw [← q2, ← q3]
          exact ⟨endL_cov ha hc.1, headR_cov hb hc.2⟩)
        have hut : u.length = i := by
          rcases hl with h | h
          · rw [hsr] at h
            have h : lv = 0 := h
            have := O.lv
            omega
          · omega
        refine ⟨[some (.fz (.dic (encP P))), some (.fz (.int k)), some (.ol ((u ++ [s]).map encS)), some (.fz (.int (0 + (i : Int) * 1))), x4, x5, none], [some (.fz (.dic (encP P))), some (.fz (.int k)), some (.ol ((u ++ [s] ++ [s2]).map encS)), some (.fz (.int (0 + (i : Int) * 1))), some (.fz (enc s.r)), some (.fz (.int p)), none], rfl, ?_, u ++ [s], s2, _, _, _, rfl, W2, .inr (by simp; omega), by simp; omega⟩
        unfold b_walk
        walk_at "ev"
        rw [il]
        walk_at "ev"
        rw [hsr, enc_inner]
        walk_at "ev"
        rw [cnt_le (by simp only [List.length_append]; omega) ha hb]
        walk_at "ev"
        rw [List.length_map, ixp]
        walk_at "ev"
        rw [lk]
        walk_at "ev"
        rw [j_app (by simp; omega), List.map_append (l₂ := [s2]), List.map_cons, List.map_nil, es2]
        rfl)
  obtain ⟨ρ', el, u, s, x3, x4, x5, rfl, W, hl, hu⟩ := turn
  have hms := W.mem s (by simp)
  have oks := (X.ok _ hms.1 hms.2).1
  simp only at oks
  refine ⟨u, s, ?_, W, ?_⟩
  · unfold b_walk at el
    unfold fn_law_walk g_law_walk
    walk_at "ev"
    rw [look0]
    walk_at "ev"
    rw [j_r1 (by decide)]
    walk_at "ev"
    simp only [List.nil_append, List.map_cons, List.map_nil, eS] at el
    rw [show (20 : Int).toNat = 20 from rfl, el]
    walk_at "ev"
  · rcases hl with h | h
    · exact h
    · have h1 := W.lvs u.length s (by simp)
      rw [rngD_length] at h
      cases hsr : s.r with
      | free n => rw [hsr] at hms; cases hms.2
      | leaf lo hi ks vs => rfl
      | inner lv lo hi ks ps =>
        have O : OkI lv lo hi ks ps := by rw [hsr] at oks; exact oks
        have := O.lv
        rw [hsr, lvl_inner] at h1
        omega
end K32
end
section
set_option Elab.async false
set_option linter.all false
set_option maxRecDepth 100000
set_option maxHeartbeats 1000000
/-! the law's plans -/
namespace K32
open PySem PySem.Spec PyProof.Rows L2
local macro_rules | `(tactic| walk_at "ev") => `(tactic| simp only [ev_f2, ev_f1, ev_fC, ev_v0, ev_vs, ev_c0, ev_c1, ev_c2, ev_cs, ev_call, ev_all0, ev_all1, ev_tup, ev_lst, ev_T, ev_andT, ev_orT, ev_notT, ev_and, ev_or, ev_not, ev_if, ev_seq, ev_nx, ev_bk, ev_no, ev_set, ev_M, ev_ret, ev_drop, ev_un, ev_ns1, ev_ns0, ev_sl, ev_o0, ev_o1, ev_neg, ev_ch, ev_fz0, ev_fz1, ev_fz2, ev_fz3, ev_fz4, ev_fz5, ev_st0, ev_sts, fn_0, fn_1, fn_2, fn_3, fn_4, fn_5,
  j_b1, j_b2, j_bL, j_cL, j_mD, j_bT, j_andT, j_andF, j_orF, j_orT, j_not, j_bl, j_aDT, j_aDF, j_oDF, j_oDT, j_ifT, j_ifF, j_seqN, j_seqR, j_seqB, j_set, j_pM, j_ret, j_drop, j_un, j_sl, j_some, j_chT, j_chF, j_chP, j_endR, j_endN, j_nones0, j_nonesS, ix0, ix1, ix2, ix3, ix4, ix5,
  d_lt, d_le, d_gt, d_ge, d_addI, d_sub, d_lenL, d_eqI, d_eqS, d_eqNI, d_eqIN, d_eqNN, d_neI, d_neS, d_neNI, d_neIN, d_neNN, d_isNN, d_isNI, d_isNB, d_isNT, d_isND, d_notNN, d_notNI, d_notNT, d_notND, d_slT, d_neg, d_tupT, d_tupL, d_listL, d_dict, d_intI, d_intB,
  List.length_cons, List.length_nil, Nat.reduceAdd, Nat.reduceSub, if_true, if_false, reduceIte, Bool.not_true, Bool.not_false, decide_true, decide_false, Bool.false_eq_true, tI_len, ev_for, ev_r1, ev_r2, ev_r3, ev_iT, ev_iL, ev_lc, ev_yes, j_for, j_iT, j_iTI, j_iL, isi_tup, isi_tI, isi_int, isi_ib, isi_non, dtup_tI, cut51, cut61, cut62, cut605, cut513, cut624, ixm5, ixm6, d_len2, d_len3, d_len4, d_len5, d_len6, s_ll, s_il, s_ii, s_fl, s_fi, s_li, s_ff, s_lf, s_if, eq_self, gs_0, gs_s, ev_app, ev_put, ev_pop, ev_ownL, ev_ownD, ev_ownC, ev_get2, j_ownL, j_ownC, j_b3, d_get, at_0, at_s, ev_putR, ev_putA, ev_fresh, ev_fld, ev_meth, ev_aM0, ev_aM1, ev_tupM, ev_make, j_fresh, j_fld, j_meth, j_mO, j_aM1, j_aM2, j_tM2, j_make, j_endMR, j_endMN, fnM_0, fnM_1, fnM_2, fnM_4, dr_fr, encS_def, eq_bds, ne_bds, Int.reduceLT, Int.reduceLE, Int.reduceEq, Int.reduceNeg])
local macro_rules | `(tactic| walk_at "evh") => `(tactic| simp only [*, ev_f2, ev_f1, ev_fC, ev_v0, ev_vs, ev_c0, ev_c1, ev_c2, ev_cs, ev_call, ev_all0, ev_all1, ev_tup, ev_lst, ev_T, ev_andT, ev_orT, ev_notT, ev_and, ev_or, ev_not, ev_if, ev_seq, ev_nx, ev_bk, ev_no, ev_set, ev_M, ev_ret, ev_drop, ev_un, ev_ns1, ev_ns0, ev_sl, ev_o0, ev_o1, ev_neg, ev_ch, ev_fz0, ev_fz1, ev_fz2, ev_fz3, ev_fz4, ev_fz5, ev_st0, ev_sts, fn_0, fn_1, fn_2, fn_3, fn_4, fn_5,
  j_b1, j_b2, j_bL, j_cL, j_mD, j_bT, j_andT, j_andF, j_orF, j_orT, j_not, j_bl, j_aDT, j_aDF, j_oDF, j_oDT, j_ifT, j_ifF, j_seqN, j_seqR, j_seqB, j_set, j_pM, j_ret, j_drop, j_un, j_sl, j_some, j_chT, j_chF, j_chP, j_endR, j_endN, j_nones0, j_nonesS, ix0, ix1, ix2, ix3, ix4, ix5,
  d_lt, d_le, d_gt, d_ge, d_addI, d_sub, d_lenL, d_eqI, d_eqS, d_eqNI, d_eqIN, d_eqNN, d_neI, d_neS, d_neNI, d_neIN, d_neNN, d_isNN, d_isNI, d_isNB, d_isNT, d_isND, d_notNN, d_notNI, d_notNT, d_notND, d_slT, d_neg, d_tupT, d_tupL, d_listL, d_dict, d_intI, d_intB,
  List.length_cons, List.length_nil, Nat.reduceAdd, Nat.reduceSub, if_true, if_false, reduceIte, Bool.not_true, Bool.not_false, decide_true, decide_false, Bool.false_eq_true, tI_len, ev_for, ev_r1, ev_r2, ev_r3, ev_iT, ev_iL, ev_lc, ev_yes, j_for, j_iT, j_iTI, j_iL, isi_tup, isi_tI, isi_int, isi_ib, isi_non, dtup_tI, cut51, cut61, cut62, cut605, cut513, cut624, ixm5, ixm6, d_len2, d_len3, d_len4, d_len5, d_len6, s_ll, s_il, s_ii, s_fl, s_fi, s_li, s_ff, s_lf, s_if, eq_self, gs_0, gs_s, ev_app, ev_put, ev_pop, ev_ownL, ev_ownD, ev_ownC, ev_get2, j_ownL, j_ownC, j_b3, d_get, at_0, at_s, ev_putR, ev_putA, ev_fresh, ev_fld, ev_meth, ev_aM0, ev_aM1, ev_tupM, ev_make, j_fresh, j_fld, j_meth, j_mO, j_aM1, j_aM2, j_tM2, j_make, j_endMR, j_endMN, fnM_0, fnM_1, fnM_2, fnM_4, dr_fr, encS_def, eq_bds, ne_bds, Int.reduceLT, Int.reduceLE, Int.reduceEq, Int.reduceNeg])

theorem u_ar : decide (("answer" : Str) = "read") = false := by decide +kernel
theorem u_cr : decide (("change" : Str) = "read") = false := by decide +kernel
def upD (t : Nat) : Nat → List D
  | 0 => []
  | m + 1 => .int (0 + (t : Int) * 1) :: upD (t + 1) m
theorem upD_10 : rngD 0 1 10 = upD 0 10 := rfl
def b_planned : FS := (gSeq (gSet 5 (fM (fCall fn_plan [(fVar 1), (f1 dList (fVar 2)), (f1 dDict (fVarC 3))])))
  (gSeq (gIf (fT (f2 dNe (f2 dIx (fVar 5) (fC (.int 0))) (fC (.str "read")))) (gRet (fM (fVar 5))) gNx)
  (gSeq (gSet 6 (fM (f2 dIx (fVar 5) (fC (.int 1)))))
  (gPut 3 (fVar 6) (fTup [(fVar 6), (f2 dIx (f2 dIx (fVar 0) (fVar 6)) (fC (.int 0))), (f2 dIx (f2 dIx (fVar 0) (fVar 6)) (fC (.int 1))), (f2 dAdd (fC (.int 40)) (fVar 4))])))))
theorem nat_bound : ∀ {n : Nat} {l : List Nat}, l.Nodup → (∀ x ∈ l, x < n) → l.length ≤ n
  | 0, [], _, _ => Nat.le_refl _
  | 0, x :: l, _, h => by
    have := h x List.mem_cons_self
    omega
  | n + 1, l, nd, h => by
    by_cases q : n ∈ l
    · have h1 := nat_bound (n := n) (l := l.erase n) (nd.erase _) fun x hx => by
        have h2 := h x (List.mem_of_mem_erase hx)
        have h3 : x ≠ n := fun e => by
          subst e
          exact (List.Nodup.not_mem_erase nd) hx
        omega
      rw [List.length_erase_of_mem q] at h1
      omega
    · have := nat_bound (n := n) nd fun x hx => by
        have h2 := h x hx
        have h3 : x ≠ n := fun e => q (e ▸ hx)
        omega
      omega
/-- what a plan comes to -/
def PlanRes (P : List Pg) (c : Cl) (s : Step) (old : Option Int) (told : D) : Prop :=
  (∃ a, told = .tup [.str "answer", a] ∧ eff c old = old) ∨ (∃ a R fr r1, told = .tup [.str "change", a, .lst ((R.map entT).map encE)] ∧ Plan P s.r r1 s.p R fr ∧ LeafTo c s.r r1 old)
theorem sibs_new {S : List Step} {q : Int} (h : dLook (sibsT S) q = none) : ∀ s ∈ S, s.p ≠ q := fun s hs e => by
  unfold dLook at h
  have h1 := Option.map_eq_none_iff.mp h
  have := List.find?_eq_none.mp h1 (s.p, encS s) (List.mem_map.mpr ⟨s, hs, rfl⟩)
  simp [e] at this
theorem sibs_get {S : List Step} {q : Int} {d : D} (h : dLook (sibsT S) q = some d) : ∃ s ∈ S, d = encS s ∧ s.p = q := by
  unfold dLook at h
  obtain ⟨y, h1, h2⟩ := Option.map_eq_some_iff.mp h
  have h3 := List.mem_of_find?_eq_some h1
  have h4 := List.find?_some h1
  obtain ⟨e, he, rfl⟩ := List.mem_map.mp h3
  exact ⟨e, he, h2.symm, of_decide_eq_true h4⟩
theorem planned_ok {P : List Pg} (X : Exact P) {L a0 : Int} {rr : Rc} (hr : (0, a0, rr) ∈ P) (hL : lvl rr = L) (hL2 : L ≤ 8) (c : Cl) :
    ∃ s lo hi ks vs old told, (s.p, s.a, s.r) ∈ P ∧ s.r = .leaf lo hi ks vs ∧ Cov lo hi (keyC c) ∧ (∀ v, (ks.zip vs).count (keyC c, v) = if old = some v then 1 else 0) ∧ fn_law_planned [.dic (encP P), encC c] = some told ∧ PlanRes P c s old told := by
  obtain ⟨u, s, ew, W, hlv⟩ := walk_ok X (k := keyC c) hr hL hL2
  have hms := W.mem s (by simp)
  have hcv := W.cov s (by simp)
  obtain ⟨lo, hi, ks, vs, hsr⟩ : ∃ lo hi ks vs, s.r = .leaf lo hi ks vs := by
    cases hsr : s.r with
    | free n => rw [hsr] at hms; cases hms.2
    | leaf lo hi ks vs => exact ⟨_, _, _, _, rfl⟩
    | inner lv lo hi ks ps =>
      have O : OkI lv lo hi ks ps := by have := (X.ok _ hms.1 hms.2).1; simp only [hsr] at this; exact this
      have := O.lv
      rw [hsr, lvl_inner] at hlv
      omega
  have hlast := W.lvs u.length s (by simp)
  have hlen : (u ++ [s]).length = u.length + 1 := by simp
  have mkC : ∀ S : List Step, (∀ x ∈ S, (x.p, x.a, x.r) ∈ P) → Ctx P (u ++ [s]) S := fun S hS => ⟨X, W.mem, W.zero, W.link, fun q d h => by
      obtain ⟨x, hx, h1, h2⟩ := sibs_get h
      exact ⟨x, h1, h2, hS x hx⟩, by omega, fun i x hx => by
      have := W.lvs i x hx
      omega⟩
  have hsl : (u ++ [s])[u.length]? = some s := by simp
  have kc : dIx (encC c) (.int 1) = some (.int (keyC c)) := by cases c <;> exact ix1
  rw [hsr, lo_leaf, hi_leaf] at hcv
  have loop : ∀ (m t : Nat) (S : List Step) (idx : List Nat) (x5 x4 x6 : Option Sl), t + m = 10 → S.length = t → idx.length = t → idx.Nodup → (∀ j ∈ idx, 0 < j ∧ j ≤ u.length) → S.map (·.p) = idx.map (sp (u ++ [s])) → (∀ x ∈ S, (x.p, x.a, x.r) ∈ P) →
      ∃ old told ρ', loopS (bName 4) b_planned (upD t m) [some (.fz (.dic (encP P))), some (.fz (encC c)), some (.fz (.lst ((u ++ [s]).map encS))), some (.od (sibsT S)), x4, x5, x6] = some (.rt told ρ') ∧ (∀ v, (ks.zip vs).count (keyC c, v) = if old = some v then 1 else 0) ∧ PlanRes P c s old told := by
    intro m
    induction m with
    | zero =>
      intro t S idx x5 x4 x6 ht hS hi nd hj hm hp
      have := nat_bound (n := u.length + 1) nd fun x hx => by have := hj x hx; omega
      have h0 : 0 ∉ idx := fun h => by have := hj 0 h; omega
      omega
    | succ m ih =>
      intro t S idx x5 x4 x6 ht hS hi nd hj hm hp
      obtain ⟨old, ho, h⟩ := plan_ok (mkC S hp) hlen.symm hsl hsr c hcv
      have hne : ∀ told, dNe told (.str "read") = some (.bl true) → True := fun _ _ => True.intro
      have stop : ∀ (w : Str) (l : List D), decide (w = "read") = false → fn_plan [encC c, .lst ((u ++ [s]).map encS), .dic (sibsT S)] = some (.tup (.str w :: l)) →
          ∃ ρ', loopS (bName 4) b_planned (upD t (m + 1)) [some (.fz (.dic (encP P))), some (.fz (encC c)), some (.fz (.lst ((u ++ [s]).map encS))), some (.od (sibsT S)), x4, x5, x6] = some (.rt (.tup (.str w :: l)) ρ') := fun w l hw e => by
        refine ⟨[some (.fz (.dic (encP P))), some (.fz (encC c)), some (.fz (.lst ((u ++ [s]).map encS))), some (.fz (.dic (sibsT S))), some (.fz (.int (0 + (t : Int) * 1))), some (.fz (.tup (.str w :: l)))] ++ frzE [x6], loop_rt (ρ1 := [some (.fz (.dic (encP P))), some (.fz (encC c)), some (.fz (.lst ((u ++ [s]).map encS))), some (.od (sibsT S)), some (.fz (.int (0 + (t : Int) * 1))), x5, x6]) rfl ?_⟩
        unfold b_planned
        clear ho h hms hcv ew W hlast hlen mkC hsl kc ih hm hp hj
        generalize encC c = ec at *
        walk_at "ev"
        rw [e]
        walk_at "ev"
        rw [hw]
        walk_at "ev"
        rfl
      rcases h with ⟨a, e, h⟩ | ⟨q, j, e, h1, h2, h3, h4, z, hz, hzq⟩ | ⟨a, R, fr, r1, e, h1, h2⟩
      · obtain ⟨ρ', el⟩ := stop _ _ u_ar e
        exact ⟨old, _, ρ', el, ho, .inl ⟨a, rfl, h⟩⟩
      · let sb : Step := ⟨q, z.2.1, z.2.2, 40 + (0 + (t : Int) * 1)⟩
        have lk : dIx (.dic (encP P)) (.int q) = some (.tup [.int z.2.1, enc z.2.2]) := by rw [← hzq]; exact lookP X.nd hz
        have put : dPut (sibsT S) q (.tup [.int q, .int z.2.1, enc z.2.2, .int (40 + (0 + (t : Int) * 1))]) = sibsT (S ++ [sb]) := by
          rw [dPut_new]
          · unfold sibsT
            rw [List.map_append]
            rfl
          · intro e he
            obtain ⟨x, hx, rfl⟩ := List.mem_map.mp he
            exact sibs_new h4 x hx
        have hlS : (sibsT S).length < 100000 := by
          unfold sibsT
          rw [List.length_map]
          omega
        have hj' : j ∉ idx := fun hin => by
          have : q ∈ S.map (·.p) := by
            rw [hm, h3]
            exact List.mem_map.mpr ⟨j, hin, rfl⟩
          obtain ⟨x, hx, hxq⟩ := List.mem_map.mp this
          exact sibs_new h4 x hx hxq
        have := ih (t + 1) (S ++ [sb]) (idx ++ [j]) (some (.fz (.tup [.str "read", .int q]))) (some (.fz (.int (0 + (t : Int) * 1)))) (some (.fz (.int q))) (by omega) (by simp [hS]) (by simp [hi]) (by
          rw [List.nodup_append]
          refine ⟨nd, by simp, fun a ha b hb => ?_⟩
          cases List.mem_singleton.mp hb
          exact fun e => hj' (e ▸ ha)) (fun x hx => by
          rcases List.mem_append.mp hx with hx | hx
          · exact hj x hx
          · cases List.mem_singleton.mp hx
            exact ⟨h1, h2⟩) (by rw [List.map_append, List.map_append, hm, List.map_cons, List.map_nil, List.map_cons, List.map_nil, ← h3]) (fun x hx => by
          rcases List.mem_append.mp hx with hx | hx
          · exact hp x hx
          · cases List.mem_singleton.mp hx
            show (q, z.2.1, z.2.2) ∈ P
            rw [← hzq]
            exact hz)
        have step : loopS (bName 4) b_planned (upD t (m + 1)) [some (.fz (.dic (encP P))), some (.fz (encC c)), some (.fz (.lst ((u ++ [s]).map encS))), some (.od (sibsT S)), x4, x5, x6] = loopS (bName 4) b_planned (upD (t + 1) m) [some (.fz (.dic (encP P))), some (.fz (encC c)), some (.fz (.lst ((u ++ [s]).map encS))), some (.od (sibsT (S ++ [sb]))), some (.fz (.int (0 + (t : Int) * 1))), some (.fz (.tup [.str "read", .int q])), some (.fz (.int q))] := by
          refine loop_nx (ρ1 := [some (.fz (.dic (encP P))), some (.fz (encC c)), some (.fz (.lst ((u ++ [s]).map encS))), some (.od (sibsT S)), some (.fz (.int (0 + (t : Int) * 1))), x5, x6]) rfl ?_
          unfold b_planned
          clear ho hms hcv ew W hlast hlen mkC hsl kc ih hm hp hj this stop
          generalize encC c = ec at *
          walk_at "ev"
          rw [e]
          walk_at "ev"
          try rw [u_rr]
          try walk_at "ev"
          rw [lk]
          walk_at "ev"
          rw [j_put hlS, put]
          try walk_at "ev"
        rw [step]
        exact this
      · obtain ⟨ρ', el⟩ := stop _ _ u_cr e
        exact ⟨old, _, ρ', el, ho, .inr ⟨a, R, fr, r1, rfl, h1, h2⟩⟩
  obtain ⟨old, told, ρ', el, ho, hres⟩ := loop 10 0 [] [] none none none rfl rfl rfl List.nodup_nil (fun j h => by cases h) rfl (fun x h => by cases h)
  refine ⟨s, lo, hi, ks, vs, old, told, hms.1, hsr, hcv, ho, ?_, hres⟩
  unfold b_planned at el
  unfold fn_law_planned g_law_planned
  generalize encC c = ec at *
  walk_at "ev"
  rw [kc]
  walk_at "ev"
  rw [ew]
  walk_at "ev"
  rw [j_r1 (by decide), show (10 : Int).toNat = 10 from rfl, upD_10]
  walk_at "ev"
  have el' : loopS (bName 4) _ (upD 0 10) [some (.fz (.dic (encP P))), some (.fz ec), some (.fz (.lst ((u ++ [s]).map encS))), some (.od []), none, none, none] = _ := el
  rw [el']
  walk_at "ev"
end K32
end
section
set_option Elab.async false
set_option linter.all false
set_option maxRecDepth 100000
set_option maxHeartbeats 1000000
/-! applying a plan -/
namespace K32
open PySem PySem.Spec PyProof.Rows L2
local macro_rules | `(tactic| walk_at "ev") => `(tactic| simp only [ev_f2, ev_f1, ev_fC, ev_v0, ev_vs, ev_c0, ev_c1, ev_c2, ev_cs, ev_call, ev_all0, ev_all1, ev_tup, ev_lst, ev_T, ev_andT, ev_orT, ev_notT, ev_and, ev_or, ev_not, ev_if, ev_seq, ev_nx, ev_bk, ev_no, ev_set, ev_M, ev_ret, ev_drop, ev_un, ev_ns1, ev_ns0, ev_sl, ev_o0, ev_o1, ev_neg, ev_ch, ev_fz0, ev_fz1, ev_fz2, ev_fz3, ev_fz4, ev_fz5, ev_st0, ev_sts, fn_0, fn_1, fn_2, fn_3, fn_4, fn_5,
  j_b1, j_b2, j_bL, j_cL, j_mD, j_bT, j_andT, j_andF, j_orF, j_orT, j_not, j_bl, j_aDT, j_aDF, j_oDF, j_oDT, j_ifT, j_ifF, j_seqN, j_seqR, j_seqB, j_set, j_pM, j_ret, j_drop, j_un, j_sl, j_some, j_chT, j_chF, j_chP, j_endR, j_endN, j_nones0, j_nonesS, ix0, ix1, ix2, ix3, ix4, ix5,
  d_lt, d_le, d_gt, d_ge, d_addI, d_sub, d_lenL, d_eqI, d_eqS, d_eqNI, d_eqIN, d_eqNN, d_neI, d_neS, d_neNI, d_neIN, d_neNN, d_isNN, d_isNI, d_isNB, d_isNT, d_isND, d_notNN, d_notNI, d_notNT, d_notND, d_slT, d_neg, d_tupT, d_tupL, d_listL, d_dict, d_intI, d_intB,
  List.length_cons, List.length_nil, Nat.reduceAdd, Nat.reduceSub, if_true, if_false, reduceIte, Bool.not_true, Bool.not_false, decide_true, decide_false, Bool.false_eq_true, tI_len, ev_for, ev_r1, ev_r2, ev_r3, ev_iT, ev_iL, ev_lc, ev_yes, j_for, j_iT, j_iTI, j_iL, isi_tup, isi_tI, isi_int, isi_ib, isi_non, dtup_tI, cut51, cut61, cut62, cut605, cut513, cut624, ixm5, ixm6, d_len2, d_len3, d_len4, d_len5, d_len6, s_ll, s_il, s_ii, s_fl, s_fi, s_li, s_ff, s_lf, s_if, eq_self, gs_0, gs_s, ev_app, ev_put, ev_pop, ev_ownL, ev_ownD, ev_ownC, ev_get2, j_ownL, j_ownC, j_b3, d_get, at_0, at_s, ev_putR, ev_putA, ev_fresh, ev_fld, ev_meth, ev_aM0, ev_aM1, ev_tupM, ev_make, j_fresh, j_fld, j_meth, j_mO, j_aM1, j_aM2, j_tM2, j_make, j_endMR, j_endMN, fnM_0, fnM_1, fnM_2, fnM_4, dr_fr, encS_def, eq_bds, ne_bds, Int.reduceLT, Int.reduceLE, Int.reduceEq, Int.reduceNeg])
local macro_rules | `(tactic| walk_at "evh") => `(tactic| simp only [*, ev_f2, ev_f1, ev_fC, ev_v0, ev_vs, ev_c0, ev_c1, ev_c2, ev_cs, ev_call, ev_all0, ev_all1, ev_tup, ev_lst, ev_T, ev_andT, ev_orT, ev_notT, ev_and, ev_or, ev_not, ev_if, ev_seq, ev_nx, ev_bk, ev_no, ev_set, ev_M, ev_ret, ev_drop, ev_un, ev_ns1, ev_ns0, ev_sl, ev_o0, ev_o1, ev_neg, ev_ch, ev_fz0, ev_fz1, ev_fz2, ev_fz3, ev_fz4, ev_fz5, ev_st0, ev_sts, fn_0, fn_1, fn_2, fn_3, fn_4, fn_5,
  j_b1, j_b2, j_bL, j_cL, j_mD, j_bT, j_andT, j_andF, j_orF, j_orT, j_not, j_bl, j_aDT, j_aDF, j_oDF, j_oDT, j_ifT, j_ifF, j_seqN, j_seqR, j_seqB, j_set, j_pM, j_ret, j_drop, j_un, j_sl, j_some, j_chT, j_chF, j_chP, j_endR, j_endN, j_nones0, j_nonesS, ix0, ix1, ix2, ix3, ix4, ix5,
  d_lt, d_le, d_gt, d_ge, d_addI, d_sub, d_lenL, d_eqI, d_eqS, d_eqNI, d_eqIN, d_eqNN, d_neI, d_neS, d_neNI, d_neIN, d_neNN, d_isNN, d_isNI, d_isNB, d_isNT, d_isND, d_notNN, d_notNI, d_notNT, d_notND, d_slT, d_neg, d_tupT, d_tupL, d_listL, d_dict, d_intI, d_intB,
  List.length_cons, List.length_nil, Nat.reduceAdd, Nat.reduceSub, if_true, if_false, reduceIte, Bool.not_true, Bool.not_false, decide_true, decide_false, Bool.false_eq_true, tI_len, ev_for, ev_r1, ev_r2, ev_r3, ev_iT, ev_iL, ev_lc, ev_yes, j_for, j_iT, j_iTI, j_iL, isi_tup, isi_tI, isi_int, isi_ib, isi_non, dtup_tI, cut51, cut61, cut62, cut605, cut513, cut624, ixm5, ixm6, d_len2, d_len3, d_len4, d_len5, d_len6, s_ll, s_il, s_ii, s_fl, s_fi, s_li, s_ff, s_lf, s_if, eq_self, gs_0, gs_s, ev_app, ev_put, ev_pop, ev_ownL, ev_ownD, ev_ownC, ev_get2, j_ownL, j_ownC, j_b3, d_get, at_0, at_s, ev_putR, ev_putA, ev_fresh, ev_fld, ev_meth, ev_aM0, ev_aM1, ev_tupM, ev_make, j_fresh, j_fld, j_meth, j_mO, j_aM1, j_aM2, j_tM2, j_make, j_endMR, j_endMN, fnM_0, fnM_1, fnM_2, fnM_4, dr_fr, encS_def, eq_bds, ne_bds, Int.reduceLT, Int.reduceLE, Int.reduceEq, Int.reduceNeg])

theorem comp_map {α : Type} {ft : En → Option Bool} {fe : FD} {i : Nat} {ρ : En} (f g : α → D) (p : α → Bool) : ∀ {l : List α}, (∀ x ∈ l, ft (ρ.set i (some (.fz (f x)))) = some (p x) ∧ (p x = true → fe (ρ.set i (some (.fz (f x)))) = some (g x))) → compD ft fe i ρ (l.map f) = some ((l.filter p).map g)
  | [], _ => rfl
  | x :: l, h => by
    obtain ⟨e1, e2⟩ := h x List.mem_cons_self
    have ih := comp_map f g p (l := l) fun y hy => h y (List.mem_cons_of_mem _ hy)
    rw [List.map_cons]
    unfold compD
    rw [e1]
    show (if p x = true then _ else _) = _
    by_cases q : p x = true
    · rw [if_pos q, e2 q, ih, List.filter_cons_of_pos q]
      rfl
    · rw [if_neg q, ih, List.filter_cons_of_neg q]
theorem new_pages_ok {R : List Tr} {fr : Nat} (hn : (R.filter fun t => decide (t.p < 0)).length = fr) (hl : R.length ≤ 90) : fn_new_pages [.lst ((R.map entT).map encE)] = some (.int fr) := by
  have e : ∀ ρ : En, lcO (some ((R.map entT).map encE)) (fT (f2 dLt (f2 dIx (fVar 1) (fC (.int 0))) (fC (.int 0)))) (fVar 1) 1 (some (.fz (.lst ((R.map entT).map encE))) :: none :: ρ) = some (.lst ((R.filter fun t => decide (t.p < 0)).map fun t => encE (entT t))) := fun ρ => by
    rw [j_lc (by simp only [List.length_map]; omega), List.map_map, comp_map (encE ∘ entT) (fun t => encE (entT t)) (fun t => decide (t.p < 0))]
    · rfl
    · intro t ht
      refine ⟨?_, fun _ => rfl⟩
      have : encE (entT t) = .tup [.int t.p, adT t, enc t.new] := rfl
      show fT (f2 dLt (f2 dIx (fVar 1) (fC (.int 0))) (fC (.int 0))) (_ :: some (.fz (encE (entT t))) :: ρ) = _
      rw [this]
      walk_at "ev"
  unfold fn_new_pages g_new_pages
  walk_at "ev"
  rw [e]
  walk_at "ev"
  rw [List.length_map, hn]
/-! free pages -/
theorem sub_len : ∀ {l l' : List Int}, l.Nodup → (∀ x ∈ l, x ∈ l') → l.length ≤ l'.length
  | [], _, _, _ => Nat.zero_le _
  | x :: l, l', nd, h => by
    rw [List.nodup_cons] at nd
    have hx := h x List.mem_cons_self
    have := sub_len (l := l) (l' := l'.erase x) nd.2 fun y hy => by
      have hy' := h y (List.mem_cons_of_mem _ hy)
      have : y ≠ x := fun e => nd.1 (e ▸ hy)
      exact (List.mem_erase_of_ne this).mpr hy'
    rw [List.length_erase_of_mem hx] at this
    have := List.length_pos_of_mem hx
    rw [List.length_cons]
    omega
theorem live_len {P : List Pg} : sm liveN P = (P.filter fun e => !isF e.2.2).length := by
  induction P with
  | nil => rfl
  | cons x P ih =>
    rw [sm_cons, ih]
    unfold liveN
    cases q : isF x.2.2 with
    | true => rw [if_pos rfl, List.filter_cons_of_neg (by rw [q]; decide)]; omega
    | false => rw [if_neg (by decide), List.filter_cons_of_pos (by rw [q]; rfl), List.length_cons]; omega
/-- a page that no live record stands on -/
def Empty (P : List Pg) (p : Int) : Prop := ∀ e ∈ P, e.1 = p → isF e.2.2 = true
def b_free : FS := (gIf (fAndT (fT (f2 dLt (f1 dLen (fVarC 2)) (fVar 1))) (fOrT (fT (f2 dNin (fVar 3) (fVar 0))) (fT (f2 dEq (f2 dIx (f2 dIx (f2 dIx (fVar 0) (fVar 3)) (fC (.int 1))) (fC (.int 0))) (fC (.str "free")))))) (gApp 2 (fVar 3)) gNx)
theorem enc_tag (r : Rc) : dIx (enc r) (.int 0) = some (.str (match r with
    | .leaf .. => "leaf"
    | .inner .. => "inner"
    | .free _ => "free")) := by cases r <;> exact ix0
theorem tag_free (r : Rc) : dEq (.str (match r with
    | .leaf .. => "leaf"
    | .inner .. => "inner"
    | .free _ => "free")) (.str "free") = some (.bl (isF r)) := by
  rw [d_eqS]
  cases r with
  | leaf => rw [show decide (("leaf" : Str) = "free") = false from s_lf]; rfl
  | inner => rw [show decide (("inner" : Str) = "free") = false from s_if]; rfl
  | free => rw [show decide (("free" : Str) = "free") = true from s_ff]; rfl
theorem free_ok {P : List Pg} (nd : (P.map (·.1)).Nodup) {n : Nat} (hn : n + sm liveN P < 199) : ∃ F : List Int, fn_law_free [.dic (encP P), .int n] = some (.lst (F.map D.int)) ∧ F.length = n ∧ F.Nodup ∧ ∀ p ∈ F, 1 ≤ p ∧ p < 200 ∧ Empty P p := by
  obtain ⟨ρ', el, F, bad, x3, rfl, h1, h2, h3, h4, h5, h6⟩ :=
    loop_inv (bi := bName 3) (body := b_free) (ds := rngD 1 1 199)
    (fun t ρ => ∃ (F bad : List Int) (x3 : Option Sl), ρ = [some (.fz (.dic (encP P))), some (.fz (.int n)), some (.ol (F.map D.int)), x3] ∧ F.Nodup ∧ (∀ p ∈ F, 1 ≤ p ∧ p < 1 + (t : Int) ∧ Empty P p) ∧ bad.Nodup ∧ (∀ p ∈ bad, p < 1 + (t : Int) ∧ ∃ e ∈ P, e.1 = p ∧ isF e.2.2 = false) ∧ F.length ≤ n ∧ (F.length = n ∨ F.length + bad.length = t))
    (ρ := [some (.fz (.dic (encP P))), some (.fz (.int n)), some (.ol (([] : List Int).map D.int)), none]) 0 ⟨[], [], none, rfl, List.nodup_nil, fun p h => (by cases h), List.nodup_nil, fun p h => (by cases h), Nat.zero_le _, .inr rfl⟩ (by
      rintro i d ρ hd ⟨F, bad, x3, rfl, h1, h2, h3, h4, h5, h6⟩
      obtain ⟨hin, rfl⟩ := rngD_get hd
      rw [Nat.zero_add] at h2 h4 h6
      have hF : ((F.map D.int).length : Int) = F.length := by rw [List.length_map]
      have mono : ∀ p : Int, p < 1 + (i : Int) → p < 1 + ((0 + i + 1 : Nat) : Int) := fun p h => by omega
      let q : Int := 1 + (i : Int) * 1
      have hq : q = 1 + (i : Int) := by show 1 + (i : Int) * 1 = _; omega
      by_cases hlt : F.length < n
      · have hb : decide (((F.map D.int).length : Int) < (n : Int)) = true := decide_eq_true (by omega)
        have hqF : q ∉ F := fun h => by have := (h2 q h).2.1; omega
        have good : Empty P q → ∃ (F' bad' : List Int) (x3' : Option Sl), [some (.fz (.dic (encP P))), some (.fz (.int n)), some (.ol ((F ++ [q]).map D.int)), some (Sl.fz (.int q))] = [some (.fz (.dic (encP P))), some (.fz (.int n)), some (.ol (F'.map D.int)), x3'] ∧ F'.Nodup ∧ (∀ p ∈ F', 1 ≤ p ∧ p < 1 + ((0 + i + 1 : Nat) : Int) ∧ Empty P p) ∧ bad'.Nodup ∧ (∀ p ∈ bad', p < 1 + ((0 + i + 1 : Nat) : Int) ∧ ∃ e ∈ P, e.1 = p ∧ isF e.2.2 = false) ∧ F'.length ≤ n ∧ (F'.length = n ∨ F'.length + bad'.length = 0 + i + 1) := fun hE => by
          refine ⟨F ++ [q], bad, _, rfl, ?_, fun p hp => ?_, h3, fun p hp => ⟨mono p (h4 p hp).1, (h4 p hp).2⟩, by simp; omega, ?_⟩
          · rw [List.nodup_append]
            refine ⟨h1, by simp, fun a ha b hb => ?_⟩
            cases List.mem_singleton.mp hb
            exact fun e => hqF (e ▸ ha)
          · rcases List.mem_append.mp hp with hp | hp
            · exact ⟨(h2 p hp).1, mono p (h2 p hp).2.1, (h2 p hp).2.2⟩
            · cases List.mem_singleton.mp hp
              exact ⟨by omega, by omega, hE⟩
          · right
            rcases h6 with h6 | h6
            · omega
            · simp only [List.length_append, List.length_cons, List.length_nil]
              omega
        cases hl : dLook (encP P) q with
        | none =>
          have hE : Empty P q := fun e he hp => by
            have := lookP nd he
            rw [hp, hl] at this
            cases this
          have hni : dNin (.int q) (.dic (encP P)) = some (.bl true) := by
            show (some (dLook (encP P) q).isSome).map (fun k => D.bl (!k)) = _
            rw [hl]
            rfl
          refine ⟨[some (.fz (.dic (encP P))), some (.fz (.int n)), some (.ol (F.map D.int)), some (.fz (.int q))], _, rfl, ?_, good hE⟩
          unfold b_free
          walk_at "ev"
          rw [hb]
          walk_at "ev"
          rw [hni]
          walk_at "ev"
          rw [j_app (by simp; omega), List.map_append]
          rfl
        | some d =>
          obtain ⟨e, he, hp, rfl⟩ := look_some hl
          have hni : dNin (.int q) (.dic (encP P)) = some (.bl false) := by
            show (some (dLook (encP P) q).isSome).map (fun k => D.bl (!k)) = _
            rw [hl]
            rfl
          have hix : dIx (.dic (encP P)) (.int q) = some (.tup [.int e.2.1, enc e.2.2]) := hl
          have tg := enc_tag e.2.2
          have tf := tag_free e.2.2
          generalize (match e.2.2 with
            | .leaf .. => ("leaf" : Str)
            | .inner .. => "inner"
            | .free _ => "free") = tag at tg tf
          cases hf : isF e.2.2 with
          | true =>
            have hE : Empty P q := fun e' he' hp' => by
              rw [nd_eq nd he' he (hp'.trans hp.symm)]
              exact hf
            refine ⟨[some (.fz (.dic (encP P))), some (.fz (.int n)), some (.ol (F.map D.int)), some (.fz (.int q))], _, rfl, ?_, good hE⟩
            rw [hf] at tf
            unfold b_free
            walk_at "ev"
            rw [hb]
            walk_at "ev"
            rw [hni]
            walk_at "ev"
            rw [hix]
            walk_at "ev"
            rw [tg]
            simp only [j_b2, tf]
            walk_at "ev"
            rw [j_app (by simp; omega), List.map_append]
            rfl
          | false =>
            refine ⟨[some (.fz (.dic (encP P))), some (.fz (.int n)), some (.ol (F.map D.int)), some (.fz (.int q))], [some (.fz (.dic (encP P))), some (.fz (.int n)), some (.ol (F.map D.int)), some (.fz (.int q))], rfl, ?_, F, bad ++ [q], _, rfl, h1, fun p hp => ⟨(h2 p hp).1, mono p (h2 p hp).2.1, (h2 p hp).2.2⟩, ?_, fun p hp => ?_, h5, ?_⟩
            · rw [hf] at tf
              unfold b_free
              walk_at "ev"
              rw [hb]
              walk_at "ev"
              rw [hni]
              walk_at "ev"
              rw [hix]
              walk_at "ev"
              rw [tg]
              simp only [j_b2, tf]
              walk_at "ev"
            · rw [List.nodup_append]
              refine ⟨h3, by simp, fun a ha b hb => ?_⟩
              cases List.mem_singleton.mp hb
              exact fun e => by have := (h4 a ha).1; omega
            · rcases List.mem_append.mp hp with hp | hp
              · exact ⟨mono p (h4 p hp).1, (h4 p hp).2⟩
              · cases List.mem_singleton.mp hp
                exact ⟨by omega, e, he, ‹e.1 = q›, hf⟩
            · right
              rcases h6 with h6 | h6
              · omega
              · simp only [List.length_append, List.length_cons, List.length_nil]
                omega
      · have hb : decide (((F.map D.int).length : Int) < (n : Int)) = false := decide_eq_false (by omega)
        refine ⟨[some (.fz (.dic (encP P))), some (.fz (.int n)), some (.ol (F.map D.int)), some (.fz (.int q))], [some (.fz (.dic (encP P))), some (.fz (.int n)), some (.ol (F.map D.int)), some (.fz (.int q))], rfl, ?_, F, bad, _, rfl, h1, fun p hp => ⟨(h2 p hp).1, mono p (h2 p hp).2.1, (h2 p hp).2.2⟩, h3, fun p hp => ⟨mono p (h4 p hp).1, (h4 p hp).2⟩, h5, .inl (by omega)⟩
        unfold b_free
        walk_at "ev"
        rw [hb]
        walk_at "ev")
  rw [rngD_length] at h2 h6
  have hbl : bad.length ≤ sm liveN P := by
    rw [live_len]
    have := sub_len (l' := (P.filter fun e => !isF e.2.2).map (·.1)) h3 fun p hp => by
      obtain ⟨e, he, hp1, hp2⟩ := (h4 p hp).2
      exact List.mem_map.mpr ⟨e, List.mem_filter.mpr ⟨he, by rw [hp2]; rfl⟩, hp1⟩
    rwa [List.length_map] at this
  refine ⟨F, ?_, by omega, h1, fun p hp => ⟨(h2 p hp).1, by have := (h2 p hp).2.1; omega, (h2 p hp).2.2⟩⟩
  unfold b_free at el
  unfold fn_law_free g_law_free
  walk_at "ev"
  rw [j_r2 (by decide), show ((200 : Int) - 1).toNat = 199 from rfl]
  walk_at "ev"
  have el' : loopS (bName 3) _ (rngD 1 1 199) [some (.fz (.dic (encP P))), some (.fz (.int n)), some (.ol []), none] = _ := el
  rw [el']
  walk_at "ev"
end K32
end
section
set_option Elab.async false
set_option linter.all false
set_option maxRecDepth 100000
set_option maxHeartbeats 1000000
/-! applying a plan: the entries placed, put -/
namespace K32
open PySem PySem.Spec PyProof.Rows L2
local macro_rules | `(tactic| walk_at "ev") => `(tactic| simp only [ev_f2, ev_f1, ev_fC, ev_v0, ev_vs, ev_c0, ev_c1, ev_c2, ev_cs, ev_call, ev_all0, ev_all1, ev_tup, ev_lst, ev_T, ev_andT, ev_orT, ev_notT, ev_and, ev_or, ev_not, ev_if, ev_seq, ev_nx, ev_bk, ev_no, ev_set, ev_M, ev_ret, ev_drop, ev_un, ev_ns1, ev_ns0, ev_sl, ev_o0, ev_o1, ev_neg, ev_ch, ev_fz0, ev_fz1, ev_fz2, ev_fz3, ev_fz4, ev_fz5, ev_st0, ev_sts, fn_0, fn_1, fn_2, fn_3, fn_4, fn_5,
  j_b1, j_b2, j_bL, j_cL, j_mD, j_bT, j_andT, j_andF, j_orF, j_orT, j_not, j_bl, j_aDT, j_aDF, j_oDF, j_oDT, j_ifT, j_ifF, j_seqN, j_seqR, j_seqB, j_set, j_pM, j_ret, j_drop, j_un, j_sl, j_some, j_chT, j_chF, j_chP, j_endR, j_endN, j_nones0, j_nonesS, ix0, ix1, ix2, ix3, ix4, ix5,
  d_lt, d_le, d_gt, d_ge, d_addI, d_sub, d_lenL, d_eqI, d_eqS, d_eqNI, d_eqIN, d_eqNN, d_neI, d_neS, d_neNI, d_neIN, d_neNN, d_isNN, d_isNI, d_isNB, d_isNT, d_isND, d_notNN, d_notNI, d_notNT, d_notND, d_slT, d_neg, d_tupT, d_tupL, d_listL, d_dict, d_intI, d_intB,
  List.length_cons, List.length_nil, Nat.reduceAdd, Nat.reduceSub, if_true, if_false, reduceIte, Bool.not_true, Bool.not_false, decide_true, decide_false, Bool.false_eq_true, tI_len, ev_for, ev_r1, ev_r2, ev_r3, ev_iT, ev_iL, ev_lc, ev_yes, j_for, j_iT, j_iTI, j_iL, isi_tup, isi_tI, isi_int, isi_ib, isi_non, dtup_tI, cut51, cut61, cut62, cut605, cut513, cut624, ixm5, ixm6, d_len2, d_len3, d_len4, d_len5, d_len6, s_ll, s_il, s_ii, s_fl, s_fi, s_li, s_ff, s_lf, s_if, eq_self, gs_0, gs_s, ev_app, ev_put, ev_pop, ev_ownL, ev_ownD, ev_ownC, ev_get2, j_ownL, j_ownC, j_b3, d_get, at_0, at_s, ev_putR, ev_putA, ev_fresh, ev_fld, ev_meth, ev_aM0, ev_aM1, ev_tupM, ev_make, j_fresh, j_fld, j_meth, j_mO, j_aM1, j_aM2, j_tM2, j_make, j_endMR, j_endMN, fnM_0, fnM_1, fnM_2, fnM_4, dr_fr, encS_def, eq_bds, ne_bds, Int.reduceLT, Int.reduceLE, Int.reduceEq, Int.reduceNeg])
local macro_rules | `(tactic| walk_at "evh") => `(tactic| simp only [*, ev_f2, ev_f1, ev_fC, ev_v0, ev_vs, ev_c0, ev_c1, ev_c2, ev_cs, ev_call, ev_all0, ev_all1, ev_tup, ev_lst, ev_T, ev_andT, ev_orT, ev_notT, ev_and, ev_or, ev_not, ev_if, ev_seq, ev_nx, ev_bk, ev_no, ev_set, ev_M, ev_ret, ev_drop, ev_un, ev_ns1, ev_ns0, ev_sl, ev_o0, ev_o1, ev_neg, ev_ch, ev_fz0, ev_fz1, ev_fz2, ev_fz3, ev_fz4, ev_fz5, ev_st0, ev_sts, fn_0, fn_1, fn_2, fn_3, fn_4, fn_5,
  j_b1, j_b2, j_bL, j_cL, j_mD, j_bT, j_andT, j_andF, j_orF, j_orT, j_not, j_bl, j_aDT, j_aDF, j_oDF, j_oDT, j_ifT, j_ifF, j_seqN, j_seqR, j_seqB, j_set, j_pM, j_ret, j_drop, j_un, j_sl, j_some, j_chT, j_chF, j_chP, j_endR, j_endN, j_nones0, j_nonesS, ix0, ix1, ix2, ix3, ix4, ix5,
  d_lt, d_le, d_gt, d_ge, d_addI, d_sub, d_lenL, d_eqI, d_eqS, d_eqNI, d_eqIN, d_eqNN, d_neI, d_neS, d_neNI, d_neIN, d_neNN, d_isNN, d_isNI, d_isNB, d_isNT, d_isND, d_notNN, d_notNI, d_notNT, d_notND, d_slT, d_neg, d_tupT, d_tupL, d_listL, d_dict, d_intI, d_intB,
  List.length_cons, List.length_nil, Nat.reduceAdd, Nat.reduceSub, if_true, if_false, reduceIte, Bool.not_true, Bool.not_false, decide_true, decide_false, Bool.false_eq_true, tI_len, ev_for, ev_r1, ev_r2, ev_r3, ev_iT, ev_iL, ev_lc, ev_yes, j_for, j_iT, j_iTI, j_iL, isi_tup, isi_tI, isi_int, isi_ib, isi_non, dtup_tI, cut51, cut61, cut62, cut605, cut513, cut624, ixm5, ixm6, d_len2, d_len3, d_len4, d_len5, d_len6, s_ll, s_il, s_ii, s_fl, s_fi, s_li, s_ff, s_lf, s_if, eq_self, gs_0, gs_s, ev_app, ev_put, ev_pop, ev_ownL, ev_ownD, ev_ownC, ev_get2, j_ownL, j_ownC, j_b3, d_get, at_0, at_s, ev_putR, ev_putA, ev_fresh, ev_fld, ev_meth, ev_aM0, ev_aM1, ev_tupM, ev_make, j_fresh, j_fld, j_meth, j_mO, j_aM1, j_aM2, j_tM2, j_make, j_endMR, j_endMN, fnM_0, fnM_1, fnM_2, fnM_4, dr_fr, encS_def, eq_bds, ne_bds, Int.reduceLT, Int.reduceLE, Int.reduceEq, Int.reduceNeg])

def rp (F : List Int) (p : Int) : Int := if p < 0 then (F[(-1 - p).toNat]?).getD 0 else p
def ren (F : List Int) : Rc → Rc
  | .inner lv lo hi ks ps => .inner lv lo hi ks (ps.map (rp F))
  | r => r
theorem real_page_ok {F : List Int} {p : Int} (h : -(F.length : Int) ≤ p) : fn_real_page [.int p, .lst (F.map D.int)] = some (.int (rp F p)) := by
  unfold fn_real_page g_real_page
  by_cases q : p < 0
  · have e0 : (0 : Int) - 1 = -1 := rfl
    have hix : dIx (.lst (F.map D.int)) (.int (-1 - p)) = some (.int (rp F p)) := by
      unfold rp
      rw [if_pos q]
      have h1 : (-1 - p).toNat < F.length := by omega
      have h2 : (-1 - p) = (((-1 - p).toNat : Nat) : Int) := by omega
      generalize (-1 - p).toNat = m at h1 h2
      show atI (F.map D.int) (-1 - p) = _
      rw [h2, List.getElem?_eq_getElem h1]
      exact atI_nat (by rw [List.getElem?_map, List.getElem?_eq_getElem h1]; rfl)
    have hb := decide_eq_true q
    walk_at "ev"
    rw [hb]
    walk_at "ev"
    rw [hix]
    walk_at "ev"
  · have hb := decide_eq_false q
    have : rp F p = p := by unfold rp; rw [if_neg q]
    rw [this]
    walk_at "ev"
    rw [hb]
    walk_at "ev"
theorem s_li2 : decide (("leaf" : Str) = "inner") = false := s_li
/-- the pages that a record names can be placed -/
def Named (n : Int) (r : Rc) : Prop := ∀ lv lo hi ks ps, r = .inner lv lo hi ks ps → (∀ p ∈ ps, -n ≤ p) ∧ ps.length ≤ 100
def b_placed : FS := (gSeq (gIf (fT (f2 dEq (f2 dIx (fVar 5) (fC (.int 0))) (fC (.str "inner")))) (gSeq (gSet 6 (fM (f1 dTuple (fLc (iT (f2 dIx (fVar 5) (fC (.int 5)))) fYes (fCall fn_real_page [(fVar 7), (fVar 1)]) 7))))
  (gSet 5 (fM (f2 dAdd (fSl (fVar 5) oNone (oSome (fC (.int 5)))) (fTup [(fVar 6)]))))) gNx)
  (gApp 2 (fTup [(fCall fn_real_page [(fVar 3), (fVar 1)]), (fVar 4), (fVar 5)])))
def outE (F : List Int) (t : Tr) : D := .tup [.int (rp F t.p), adT t, enc (ren F t.new)]
theorem bTup3 {a b c : D} {x0 x1 x2 x3 x4 x5 : Option Sl} {ρ : En} : bTup [3, 4, 5] (.tup [a, b, c]) (x0 :: x1 :: x2 :: x3 :: x4 :: x5 :: ρ) = some (x0 :: x1 :: x2 :: some (.fz a) :: some (.fz b) :: some (.fz c) :: ρ) := rfl
theorem bTup2 {a b c : D} {x0 x1 x2 x3 x4 : Option Sl} {ρ : En} : bTup [2, 3, 4] (.tup [a, b, c]) (x0 :: x1 :: x2 :: x3 :: x4 :: ρ) = some (x0 :: x1 :: some (.fz a) :: some (.fz b) :: some (.fz c) :: ρ) := rfl
theorem placed_ok {F : List Int} {R : List Tr} (hR : R.length ≤ 90) (hp : ∀ t ∈ R, -(F.length : Int) ≤ t.p ∧ Named F.length t.new) : fn_placed [.lst ((R.map entT).map encE), .lst (F.map D.int)] = some (.lst (R.map (outE F))) := by
  have loop : ∀ (R1 R2 : List Tr) (x3 x4 x5 x6 x7 : Option Sl) (e0 : D), R1.length + R2.length ≤ 90 → (∀ t ∈ R2, -(F.length : Int) ≤ t.p ∧ Named F.length t.new) →
      ∃ y3 y4 y5 y6 y7, loopS (bTup [3, 4, 5]) b_placed ((R2.map entT).map encE) [some (.fz e0), some (.fz (.lst (F.map D.int))), some (.ol (R1.map (outE F))), x3, x4, x5, x6, x7] = some (.nx [some (.fz e0), some (.fz (.lst (F.map D.int))), some (.ol ((R1 ++ R2).map (outE F))), y3, y4, y5, y6, y7]) := by
    intro R1 R2
    induction R2 generalizing R1 with
    | nil =>
      intro x3 x4 x5 x6 x7 e0 _ _
      exact ⟨x3, x4, x5, x6, x7, by rw [List.append_nil]; rfl⟩
    | cons t R2 ih =>
      intro x3 x4 x5 x6 x7 e0 hl hp
      obtain ⟨ht, hnm⟩ := hp t List.mem_cons_self
      have rpo := real_page_ok ht
      have ap : ∀ ρ : En, appO (some (some (.ol (R1.map (outE F))))) (some (outE F t)) 2 ρ = some (.nx (ρ.set 2 (some (.ol ((R1 ++ [t]).map (outE F)))))) := fun ρ => by
        rw [j_app (by rw [List.length_map]; rw [List.length_cons] at hl; omega), List.map_append]
        rfl
      have ee : encE (entT t) = .tup [.int t.p, adT t, enc t.new] := rfl
      have oe : outE F t = .tup [.int (rp F t.p), adT t, enc (ren F t.new)] := rfl
      rw [oe] at ap
      have step : ∃ z5 z6, b_placed [some (.fz e0), some (.fz (.lst (F.map D.int))), some (.ol (R1.map (outE F))), some (.fz (.int t.p)), some (.fz (adT t)), some (.fz (enc t.new)), x6, x7] = some (.nx [some (.fz e0), some (.fz (.lst (F.map D.int))), some (.ol ((R1 ++ [t]).map (outE F))), some (.fz (.int t.p)), some (.fz (adT t)), z5, z6, x7]) := by
        unfold b_placed
        cases hr : t.new with
        | free n =>
          rw [hr] at ap
          have e : ren F (.free n) = .free n := rfl
          rw [e, enc_free] at ap
          refine ⟨some (.fz (enc (.free n))), x6, ?_⟩
          rw [enc_free]
          walk_at "ev"
          rw [rpo]
          walk_at "ev"
          rw [ap]
          rfl
        | leaf lo hi ks vs =>
          rw [hr] at ap
          have e : ren F (.leaf lo hi ks vs) = .leaf lo hi ks vs := rfl
          rw [e, enc_leaf] at ap
          refine ⟨some (.fz (enc (.leaf lo hi ks vs))), x6, ?_⟩
          rw [enc_leaf]
          walk_at "ev"
          rw [rpo]
          walk_at "ev"
          rw [ap]
          rfl
        | inner lv lo hi ks ps =>
          rw [hr] at ap
          have e : ren F (.inner lv lo hi ks ps) = .inner lv lo hi ks (ps.map (rp F)) := rfl
          rw [e, enc_inner] at ap
          obtain ⟨n1, n2⟩ := hnm lv lo hi ks ps hr
          have lc : ∀ (a b c d e f g h : Option Sl), b = some (.fz (.lst (F.map D.int))) → lcO (some (ps.map D.int)) fYes (fCall fn_real_page [(fVar 7), (fVar 1)]) 7 [a, b, c, d, e, f, g, h] = some (.lst ((ps.map (rp F)).map D.int)) := by
            rintro a b c d e f g h rfl
            rw [j_lc (by rw [List.length_map]; omega)]
            unfold fYes
            rw [comp_map D.int (fun p => D.int (rp F p)) (fun _ => true) fun p hp => ⟨rfl, fun _ => by
              have := real_page_ok (n1 p hp)
              walk_at "ev"
              rw [this]⟩, List.filter_eq_self.mpr fun _ _ => rfl, List.map_map]
            rfl
          have tp : D.tup ((ps.map (rp F)).map D.int) = tI (ps.map (rp F)) := rfl
          have ad : dAdd (.tup [.str "inner", .int lv, bd lo, bd hi, tI ks]) (.tup [tI (ps.map (rp F))]) = some (.tup [.str "inner", .int lv, bd lo, bd hi, tI ks, tI (ps.map (rp F))]) := d_catP (by simp)
          refine ⟨some (.fz (enc (.inner lv lo hi ks (ps.map (rp F))))), some (.fz (tI (ps.map (rp F)))), ?_⟩
          rw [enc_inner, enc_inner]
          walk_at "ev"
          rw [lc _ _ _ _ _ _ _ _ rfl]
          walk_at "ev"
          rw [tp, ad]
          walk_at "ev"
          rw [rpo]
          walk_at "ev"
          rw [ap]
          rfl
      obtain ⟨z5, z6, step⟩ := step
      obtain ⟨y3, y4, y5, y6, y7, e⟩ := ih (R1 ++ [t]) (some (.fz (.int t.p))) (some (.fz (adT t))) z5 z6 x7 e0 (by simp only [List.length_append, List.length_cons, List.length_nil] at hl ⊢; omega) (fun u hu => hp u (List.mem_cons_of_mem _ hu))
      refine ⟨y3, y4, y5, y6, y7, ?_⟩
      rw [List.map_cons, List.map_cons, ee, loop_nx bTup3 step, e]
      simp
  obtain ⟨y3, y4, y5, y6, y7, e⟩ := loop [] R none none none none none (.lst ((R.map entT).map encE)) (by simpa using hR) hp
  unfold b_placed at e
  unfold fn_placed g_placed
  walk_at "ev"
  have e' : loopS (bTup [3, 4, 5]) _ ((R.map entT).map encE) [some (.fz (.lst ((R.map entT).map encE))), some (.fz (.lst (F.map D.int))), some (.ol []), none, none, none, none, none] = _ := e
  rw [e', List.nil_append]
  cases y3 <;> cases y4 <;> cases y5 <;> cases y6 <;> cases y7 <;> rfl
end K32
end
section
set_option Elab.async false
set_option linter.all false
set_option maxRecDepth 100000
set_option maxHeartbeats 1000000
/-! applying a plan, by value -/
namespace K32
open PySem PySem.Spec PyProof.Rows L2
local macro_rules | `(tactic| walk_at "ev") => `(tactic| simp only [ev_f2, ev_f1, ev_fC, ev_v0, ev_vs, ev_c0, ev_c1, ev_c2, ev_cs, ev_call, ev_all0, ev_all1, ev_tup, ev_lst, ev_T, ev_andT, ev_orT, ev_notT, ev_and, ev_or, ev_not, ev_if, ev_seq, ev_nx, ev_bk, ev_no, ev_set, ev_M, ev_ret, ev_drop, ev_un, ev_ns1, ev_ns0, ev_sl, ev_o0, ev_o1, ev_neg, ev_ch, ev_fz0, ev_fz1, ev_fz2, ev_fz3, ev_fz4, ev_fz5, ev_st0, ev_sts, fn_0, fn_1, fn_2, fn_3, fn_4, fn_5,
  j_b1, j_b2, j_bL, j_cL, j_mD, j_bT, j_andT, j_andF, j_orF, j_orT, j_not, j_bl, j_aDT, j_aDF, j_oDF, j_oDT, j_ifT, j_ifF, j_seqN, j_seqR, j_seqB, j_set, j_pM, j_ret, j_drop, j_un, j_sl, j_some, j_chT, j_chF, j_chP, j_endR, j_endN, j_nones0, j_nonesS, ix0, ix1, ix2, ix3, ix4, ix5,
  d_lt, d_le, d_gt, d_ge, d_addI, d_sub, d_lenL, d_eqI, d_eqS, d_eqNI, d_eqIN, d_eqNN, d_neI, d_neS, d_neNI, d_neIN, d_neNN, d_isNN, d_isNI, d_isNB, d_isNT, d_isND, d_notNN, d_notNI, d_notNT, d_notND, d_slT, d_neg, d_tupT, d_tupL, d_listL, d_dict, d_intI, d_intB,
  List.length_cons, List.length_nil, Nat.reduceAdd, Nat.reduceSub, if_true, if_false, reduceIte, Bool.not_true, Bool.not_false, decide_true, decide_false, Bool.false_eq_true, tI_len, ev_for, ev_r1, ev_r2, ev_r3, ev_iT, ev_iL, ev_lc, ev_yes, j_for, j_iT, j_iTI, j_iL, isi_tup, isi_tI, isi_int, isi_ib, isi_non, dtup_tI, cut51, cut61, cut62, cut605, cut513, cut624, ixm5, ixm6, d_len2, d_len3, d_len4, d_len5, d_len6, s_ll, s_il, s_ii, s_fl, s_fi, s_li, s_ff, s_lf, s_if, eq_self, gs_0, gs_s, ev_app, ev_put, ev_pop, ev_ownL, ev_ownD, ev_ownC, ev_get2, j_ownL, j_ownC, j_b3, d_get, at_0, at_s, ev_putR, ev_putA, ev_fresh, ev_fld, ev_meth, ev_aM0, ev_aM1, ev_tupM, ev_make, j_fresh, j_fld, j_meth, j_mO, j_aM1, j_aM2, j_tM2, j_make, j_endMR, j_endMN, fnM_0, fnM_1, fnM_2, fnM_4, dr_fr, encS_def, eq_bds, ne_bds, Int.reduceLT, Int.reduceLE, Int.reduceEq, Int.reduceNeg])
local macro_rules | `(tactic| walk_at "evh") => `(tactic| simp only [*, ev_f2, ev_f1, ev_fC, ev_v0, ev_vs, ev_c0, ev_c1, ev_c2, ev_cs, ev_call, ev_all0, ev_all1, ev_tup, ev_lst, ev_T, ev_andT, ev_orT, ev_notT, ev_and, ev_or, ev_not, ev_if, ev_seq, ev_nx, ev_bk, ev_no, ev_set, ev_M, ev_ret, ev_drop, ev_un, ev_ns1, ev_ns0, ev_sl, ev_o0, ev_o1, ev_neg, ev_ch, ev_fz0, ev_fz1, ev_fz2, ev_fz3, ev_fz4, ev_fz5, ev_st0, ev_sts, fn_0, fn_1, fn_2, fn_3, fn_4, fn_5,
  j_b1, j_b2, j_bL, j_cL, j_mD, j_bT, j_andT, j_andF, j_orF, j_orT, j_not, j_bl, j_aDT, j_aDF, j_oDF, j_oDT, j_ifT, j_ifF, j_seqN, j_seqR, j_seqB, j_set, j_pM, j_ret, j_drop, j_un, j_sl, j_some, j_chT, j_chF, j_chP, j_endR, j_endN, j_nones0, j_nonesS, ix0, ix1, ix2, ix3, ix4, ix5,
  d_lt, d_le, d_gt, d_ge, d_addI, d_sub, d_lenL, d_eqI, d_eqS, d_eqNI, d_eqIN, d_eqNN, d_neI, d_neS, d_neNI, d_neIN, d_neNN, d_isNN, d_isNI, d_isNB, d_isNT, d_isND, d_notNN, d_notNI, d_notNT, d_notND, d_slT, d_neg, d_tupT, d_tupL, d_listL, d_dict, d_intI, d_intB,
  List.length_cons, List.length_nil, Nat.reduceAdd, Nat.reduceSub, if_true, if_false, reduceIte, Bool.not_true, Bool.not_false, decide_true, decide_false, Bool.false_eq_true, tI_len, ev_for, ev_r1, ev_r2, ev_r3, ev_iT, ev_iL, ev_lc, ev_yes, j_for, j_iT, j_iTI, j_iL, isi_tup, isi_tI, isi_int, isi_ib, isi_non, dtup_tI, cut51, cut61, cut62, cut605, cut513, cut624, ixm5, ixm6, d_len2, d_len3, d_len4, d_len5, d_len6, s_ll, s_il, s_ii, s_fl, s_fi, s_li, s_ff, s_lf, s_if, eq_self, gs_0, gs_s, ev_app, ev_put, ev_pop, ev_ownL, ev_ownD, ev_ownC, ev_get2, j_ownL, j_ownC, j_b3, d_get, at_0, at_s, ev_putR, ev_putA, ev_fresh, ev_fld, ev_meth, ev_aM0, ev_aM1, ev_tupM, ev_make, j_fresh, j_fld, j_meth, j_mO, j_aM1, j_aM2, j_tM2, j_make, j_endMR, j_endMN, fnM_0, fnM_1, fnM_2, fnM_4, dr_fr, encS_def, eq_bds, ne_bds, Int.reduceLT, Int.reduceLE, Int.reduceEq, Int.reduceNeg])

def pput (P : List Pg) (p a : Int) (r : Rc) : List Pg := if P.any (fun e => decide (e.1 = p)) then P.map (fun e => if e.1 = p then (p, a, r) else e) else P ++ [(p, a, r)]
theorem enc_pput {P : List Pg} {p a : Int} {r : Rc} : dPut (encP P) p (.tup [.int a, enc r]) = encP (pput P p a r) := by
  unfold dPut pput
  have e1 : (encP P).any (fun e => decide (e.1 = p)) = P.any (fun e => decide (e.1 = p)) := by
    unfold encP
    rw [List.any_map]
    rfl
  rw [e1]
  split
  · unfold encP
    rw [List.map_map, List.map_map]
    apply List.map_congr_left
    intro e _
    show (if e.1 = p then _ else _) = _
    by_cases q : e.1 = p
    · rw [if_pos q]
      show _ = ((if e.1 = p then (p, a, r) else e : Pg).1, _)
      simp only [if_pos q]
    · rw [if_neg q]
      show _ = ((if e.1 = p then (p, a, r) else e : Pg).1, _)
      simp only [if_neg q]
  · unfold encP
    rw [List.map_append]
    rfl
theorem pput_len {P : List Pg} {p a : Int} {r : Rc} : (pput P p a r).length ≤ P.length + 1 := by
  unfold pput
  split
  · rw [List.length_map]
    omega
  · simp
def putAll (m : Int) (P : List Pg) : List (Int × Rc) → List Pg
  | [] => P
  | (p, r) :: l => putAll (m + 1) (pput P p (m + 1) r) l
def b_app1 : FS := (gIf (fAndT (fT (f2 dGe (fVar 2) (fC (.int 0)))) (fOrT (fT (f2 dNin (fVar 2) (fVar 0))) (fT (f2 dNe (f2 dIx (f2 dIx (fVar 0) (fVar 2)) (fC (.int 0))) (fVar 3))))) (gRet (fM (fC .non))) gNx)
def b_app2 : FS := (gSeq (gSet 6 (fM (f2 dAdd (fVar 6) (fC (.int 1)))))
  (gPut 5 (fVar 2) (fTup [(fVar 6), (fVar 4)])))
def Bad (Q : List Pg) (t : Tr) : Prop := 0 ≤ t.p ∧ ∀ e ∈ Q, e.1 = t.p → e.2.1 ≠ t.a
theorem app1_eval {Q : List Pg} (nd : (Q.map (·.1)).Nodup) {t : Tr} {e0 : D} :
    (Bad Q t ∧ b_app1 [some (.fz (.dic (encP Q))), some (.fz e0), some (.fz (.int t.p)), some (.fz (adT t)), some (.fz (enc t.new)), none, none] = some (.rt .non [some (.fz (.dic (encP Q))), some (.fz e0), some (.fz (.int t.p)), some (.fz (adT t)), some (.fz (enc t.new)), none, none])) ∨
    (¬ Bad Q t ∧ b_app1 [some (.fz (.dic (encP Q))), some (.fz e0), some (.fz (.int t.p)), some (.fz (adT t)), some (.fz (enc t.new)), none, none] = some (.nx [some (.fz (.dic (encP Q))), some (.fz e0), some (.fz (.int t.p)), some (.fz (adT t)), some (.fz (enc t.new)), none, none])) := by
  unfold b_app1
  by_cases h0 : 0 ≤ t.p
  · have hb := decide_eq_true h0
    have ea : adT t = .int t.a := if_pos h0
    rw [ea]
    cases hl : dLook (encP Q) t.p with
    | none =>
      have hni : dNin (.int t.p) (.dic (encP Q)) = some (.bl true) := by
        show (some (dLook (encP Q) t.p).isSome).map (fun k => D.bl (!k)) = _
        rw [hl]
        rfl
      refine .inl ⟨⟨h0, fun e he hp => ?_⟩, ?_⟩
      · have := lookP nd he
        rw [hp, hl] at this
        cases this
      · walk_at "ev"
        rw [hb]
        walk_at "ev"
        rw [hni]
        walk_at "ev"
    | some d =>
      obtain ⟨e, he, hp, rfl⟩ := look_some hl
      have hni : dNin (.int t.p) (.dic (encP Q)) = some (.bl false) := by
        show (some (dLook (encP Q) t.p).isSome).map (fun k => D.bl (!k)) = _
        rw [hl]
        rfl
      have hix : dIx (.dic (encP Q)) (.int t.p) = some (.tup [.int e.2.1, enc e.2.2]) := hl
      by_cases q : e.2.1 = t.a
      · refine .inr ⟨fun h => h.2 e he hp q, ?_⟩
        have hq := decide_eq_true q
        walk_at "ev"
        rw [hb]
        walk_at "ev"
        rw [hni]
        walk_at "ev"
        rw [hix]
        walk_at "ev"
        rw [hq]
        walk_at "ev"
      · refine .inl ⟨⟨h0, fun e' he' hp' => by rw [nd_eq nd he' he (hp'.trans hp.symm)]; exact q⟩, ?_⟩
        have hq := decide_eq_false q
        walk_at "ev"
        rw [hb]
        walk_at "ev"
        rw [hni]
        walk_at "ev"
        rw [hix]
        walk_at "ev"
        rw [hq]
        walk_at "ev"
  · refine .inr ⟨fun h => h0 h.1, ?_⟩
    have hb := decide_eq_false h0
    walk_at "ev"
    rw [hb]
    walk_at "ev"
theorem applied_none {Q : List Pg} (nd : (Q.map (·.1)).Nodup) {R : List Tr} (h : ∃ t ∈ R, Bad Q t) : fn_law_applied [.dic (encP Q), .lst ((R.map entT).map encE)] = some .non := by
  have loop : ∀ (R : List Tr) (x2 x3 x4 : Option Sl) (e0 : D), (∃ t ∈ R, Bad Q t) → ∃ ρ', loopS (bTup [2, 3, 4]) b_app1 ((R.map entT).map encE) [some (.fz (.dic (encP Q))), some (.fz e0), x2, x3, x4, none, none] = some (.rt .non ρ') := by
    intro R
    induction R with
    | nil => rintro _ _ _ _ ⟨t, ht, _⟩; cases ht
    | cons u R ih =>
      rintro x2 x3 x4 e0 ⟨t, ht, hb⟩
      have ee : encE (entT u) = .tup [.int u.p, adT u, enc u.new] := rfl
      rw [List.map_cons, List.map_cons, ee]
      rcases app1_eval nd (t := u) (e0 := e0) with ⟨_, e⟩ | ⟨hn, e⟩
      · exact ⟨_, loop_rt bTup2 e⟩
      · rw [loop_nx bTup2 e]
        refine ih _ _ _ e0 ⟨t, ?_, hb⟩
        rcases List.mem_cons.mp ht with rfl | ht
        · exact absurd hb hn
        · exact ht
  obtain ⟨ρ', e⟩ := loop R none none none (.lst ((R.map entT).map encE)) h
  unfold b_app1 at e
  unfold fn_law_applied g_law_applied
  walk_at "ev"
  rw [e]
  walk_at "ev"
theorem applied_some {P : List Pg} (nd : (P.map (·.1)).Nodup) (hP : P.length ≤ 300) (hne : P ≠ []) {R : List Tr} (hR : R.length ≤ 90) (hn : ∀ t ∈ R, ¬ Bad P t) {fr : Nat} (hfr : (R.filter fun t => decide (t.p < 0)).length = fr)
    {F : List Int} (eF : fn_law_free [.dic (encP P), .int fr] = some (.lst (F.map D.int))) (hp : ∀ t ∈ R, -(F.length : Int) ≤ t.p ∧ Named F.length t.new) :
    ∃ m, (∀ e ∈ P, e.2.1 ≤ m) ∧ fn_law_applied [.dic (encP P), .lst ((R.map entT).map encE)] = some (.dic (encP (putAll m P (R.map fun t => (rp F t.p, ren F t.new))))) := by
  have loop1 : ∀ (R : List Tr) (x2 x3 x4 : Option Sl) (e0 : D), (∀ t ∈ R, ¬ Bad P t) → ∃ y2 y3 y4, loopS (bTup [2, 3, 4]) b_app1 ((R.map entT).map encE) [some (.fz (.dic (encP P))), some (.fz e0), x2, x3, x4, none, none] = some (.nx [some (.fz (.dic (encP P))), some (.fz e0), y2, y3, y4, none, none]) := by
    intro R
    induction R with
    | nil => intro x2 x3 x4 e0 _; exact ⟨x2, x3, x4, rfl⟩
    | cons u R ih =>
      intro x2 x3 x4 e0 hb
      have ee : encE (entT u) = .tup [.int u.p, adT u, enc u.new] := rfl
      rw [List.map_cons, List.map_cons, ee]
      rcases app1_eval nd (t := u) (e0 := e0) with ⟨hy, e⟩ | ⟨_, e⟩
      · exact absurd hy (hb u List.mem_cons_self)
      · rw [loop_nx bTup2 e]
        exact ih _ _ _ e0 fun t ht => hb t (List.mem_cons_of_mem _ ht)
  have loop2 : ∀ (R : List Tr) (Q : List Pg) (m : Int) (x2 x3 x4 : Option Sl) (e0 e1 : D), Q.length + R.length ≤ 1000 → ∃ y2 y3 y4 y6, loopS (bTup [2, 3, 4]) b_app2 (R.map (outE F)) [some (.fz e0), some (.fz e1), x2, x3, x4, some (.od (encP Q)), some (.fz (.int m))] = some (.nx [some (.fz e0), some (.fz e1), y2, y3, y4, some (.od (encP (putAll m Q (R.map fun t => (rp F t.p, ren F t.new))))), y6]) := by
    intro R
    induction R with
    | nil => intro Q m x2 x3 x4 e0 e1 _; exact ⟨x2, x3, x4, _, rfl⟩
    | cons u R ih =>
      intro Q m x2 x3 x4 e0 e1 hl
      rw [List.length_cons] at hl
      have ee : outE F u = .tup [.int (rp F u.p), adT u, enc (ren F u.new)] := rfl
      have step : b_app2 [some (.fz e0), some (.fz e1), some (.fz (.int (rp F u.p))), some (.fz (adT u)), some (.fz (enc (ren F u.new))), some (.od (encP Q)), some (.fz (.int m))] = some (.nx [some (.fz e0), some (.fz e1), some (.fz (.int (rp F u.p))), some (.fz (adT u)), some (.fz (enc (ren F u.new))), some (.od (encP (pput Q (rp F u.p) (m + 1) (ren F u.new)))), some (.fz (.int (m + 1)))]) := by
        unfold b_app2
        walk_at "ev"
        rw [j_put (by rw [encP_len]; omega), enc_pput]
        walk_at "ev"
      rw [List.map_cons, ee, loop_nx bTup2 step]
      have := @pput_len Q (rp F u.p) (m + 1) (ren F u.new)
      exact ih _ (m + 1) _ _ _ e0 e1 (by omega)
  obtain ⟨y2, y3, y4, el1⟩ := loop1 R none none none (.lst ((R.map entT).map encE)) hn
  obtain ⟨⟨p0, a0, r0⟩, P0, hP0⟩ : ∃ e P0, P = e :: P0 := by
    cases P with
    | nil => exact absurd rfl hne
    | cons e P0 => exact ⟨e, P0, rfl⟩
  have hadr : P.map (fun e => e.2.1) = a0 :: P0.map (fun e => e.2.1) := by rw [hP0]; rfl
  let m := maxI a0 (P0.map fun e => e.2.1)
  have hm : ∀ e ∈ P, e.2.1 ≤ m := fun e he => by
    have h1 : e.2.1 ∈ P.map (fun e => e.2.1) := List.mem_map.mpr ⟨e, he, rfl⟩
    rw [hadr] at h1
    obtain ⟨_, h2, h3⟩ := maxI_spec (P0.map fun e => e.2.1) a0
    rcases List.mem_cons.mp h1 with h1 | h1
    · rw [h1]; exact h2
    · exact h3 _ h1
  have mx : ∀ x2 x3 x4 : Option Sl, fLcK (fdVar 5) (some 5) fYes (f2 dIx (f2 dIx (fVarC 5) (fVar 2)) (fC (.int 0))) 2 [some (.fz (.dic (encP P))), some (.fz (.lst ((R.map entT).map encE))), x2, x3, x4, some (.od (encP P)), none] = some (.lst ((P.map (fun e => e.2.1)).map D.int)) := fun x2 x3 x4 => by
    unfold fLcK
    show (if (encP P).length ≤ 100000 then (compD fYes (f2 dIx (f2 dIx (fVarC 5) (fVar 2)) (fC (.int 0))) 2 (lockE (some 5) _) (keysD (encP P))).bind _ else none) = _
    rw [if_pos (by rw [encP_len]; omega)]
    obtain ⟨z2, z3, z4, hz⟩ : ∃ z2 z3 z4, lockE (some 5) [some (.fz (.dic (encP P))), some (.fz (.lst ((R.map entT).map encE))), x2, x3, x4, some (.od (encP P)), none] = [some (.fz (.dic (encP P))), some (.fz (.lst ((R.map entT).map encE))), z2, z3, z4, some (.fz (.dic (encP P))), none] := ⟨_, _, _, rfl⟩
    rw [hz]
    have ek : keysD (encP P) = P.map fun e => D.int e.1 := by
      unfold keysD encP
      rw [List.map_map]
      rfl
    unfold fYes
    rw [ek, comp_map (fun e : Pg => D.int e.1) (fun e => D.int e.2.1) (fun _ => true) fun e he => ⟨rfl, fun _ => by
      have hix : dIx (.dic (encP P)) (.int e.1) = some (.tup [.int e.2.1, enc e.2.2]) := lookP nd he
      walk_at "ev"
      rw [hix]
      walk_at "ev"⟩, List.filter_eq_self.mpr fun _ _ => rfl]
    show (intsD (P.map (fun e => D.int e.2.1))).map _ = _
    rw [show (P.map fun e => D.int e.2.1) = (P.map fun e => e.2.1).map D.int by rw [List.map_map]; rfl, intsD_map]
    rfl
  have mx2 : dMax (.lst ((P.map (fun e => e.2.1)).map D.int)) = some (.int m) := by
    show (intsD _).bind maxL = _
    rw [intsD_map, hadr]
    rfl
  obtain ⟨w2, w3, w4, w6, el2⟩ := loop2 R P m y2 y3 y4 (.dic (encP P)) (.lst ((R.map entT).map encE)) (by omega)
  refine ⟨m, hm, ?_⟩
  have np := new_pages_ok hfr hR
  have pl := placed_ok hR hp
  unfold b_app1 at el1
  unfold b_app2 at el2
  unfold fn_law_applied g_law_applied
  walk_at "ev"
  rw [el1]
  walk_at "ev"
  rw [mx]
  walk_at "ev"
  rw [mx2]
  walk_at "ev"
  rw [np]
  walk_at "ev"
  rw [eF]
  walk_at "ev"
  rw [pl]
  walk_at "ev"
  rw [el2]
  cases w2 <;> cases w3 <;> cases w4 <;> cases w6 <;> rfl
end K32
end
section
set_option Elab.async false
set_option linter.all false
set_option maxRecDepth 100000
set_option maxHeartbeats 1000000
/-! the tree after a plan -/
namespace K32
open PySem PySem.Spec PyProof.Rows L2
theorem nd_map {α β : Type} {f : α → β} : ∀ {l : List α}, (l.map f).Nodup → l.Nodup
  | [], _ => List.nodup_nil
  | x :: l, h => by
    rw [List.map_cons, List.nodup_cons] at h
    exact List.nodup_cons.mpr ⟨fun hx => h.1 (List.mem_map_of_mem hx), nd_map h.2⟩
theorem filter_ne {P : List Pg} {p : Int} (h : ∀ e ∈ P, e.1 ≠ p) : P.filter (fun e => decide (e.1 ≠ p)) = P := List.filter_eq_self.mpr fun e he => decide_eq_true (h e he)
theorem pput_perm {P : List Pg} {p a : Int} {r : Rc} (nd : (P.map (·.1)).Nodup) : (pput P p a r).Perm ((p, a, r) :: P.filter fun e => decide (e.1 ≠ p)) := by
  unfold pput
  split
  · rename_i h
    rw [List.any_eq_true] at h
    obtain ⟨y, hy, hp⟩ := h
    have hp := of_decide_eq_true hp
    induction P with
    | nil => cases hy
    | cons x P ih =>
      rw [List.map_cons, List.nodup_cons] at nd
      rw [List.map_cons]
      by_cases q : x.1 = p
      · have hn : ∀ e ∈ P, e.1 ≠ p := fun e he h => nd.1 (List.mem_map.mpr ⟨e, he, h.trans q.symm⟩)
        rw [if_pos q, List.filter_cons_of_neg (by simp [q]), filter_ne hn]
        have : P.map (fun e => if e.1 = p then (p, a, r) else e) = P := by
          conv => rhs; rw [← List.map_id P]
          apply List.map_congr_left
          intro e he
          rw [if_neg (hn e he)]
          rfl
        rw [this]
      · rw [if_neg q, List.filter_cons_of_pos (by simp [q])]
        have hy' : y ∈ P := by
          rcases List.mem_cons.mp hy with rfl | h
          · exact absurd hp q
          · exact h
        exact ((ih nd.2 hy').cons x).trans (.swap _ _ _)
  · rename_i h
    have hn : ∀ e ∈ P, e.1 ≠ p := fun e he q => h (List.any_eq_true.mpr ⟨e, he, decide_eq_true q⟩)
    rw [filter_ne hn]
    exact List.perm_append_singleton _ _
def adrL (m : Int) : List (Int × Rc) → List Pg
  | [] => []
  | (p, r) :: l => (p, m + 1, r) :: adrL (m + 1) l
theorem adrL_pages : ∀ {m : Int} {l : List (Int × Rc)}, (adrL m l).map (·.1) = l.map (·.1)
  | m, [] => rfl
  | m, (p, r) :: l => by
    show p :: (adrL (m + 1) l).map (·.1) = _
    rw [adrL_pages]
    rfl
theorem adrL_mem : ∀ {m : Int} {l : List (Int × Rc)} {e : Pg}, e ∈ adrL m l → (e.1, e.2.2) ∈ l ∧ m < e.2.1
  | m, (p, r) :: l, e, h => by
    rcases List.mem_cons.mp h with rfl | h
    · exact ⟨List.mem_cons_self, by show m < m + 1; omega⟩
    · obtain ⟨h1, h2⟩ := adrL_mem h
      exact ⟨List.mem_cons_of_mem _ h1, by omega⟩
theorem mem_adrL : ∀ {m : Int} {l : List (Int × Rc)} {x : Int × Rc}, x ∈ l → ∃ a, m < a ∧ (x.1, a, x.2) ∈ adrL m l
  | m, (p, r) :: l, x, h => by
    rcases List.mem_cons.mp h with rfl | h
    · exact ⟨m + 1, by omega, List.mem_cons_self⟩
    · obtain ⟨a, h1, h2⟩ := mem_adrL (m := m + 1) h
      exact ⟨a, by omega, List.mem_cons_of_mem _ h2⟩
theorem adrL_sm {w : Int → Rc → Nat} : ∀ {m : Int} {l : List (Int × Rc)}, sm (fun e : Pg => w e.1 e.2.2) (adrL m l) = sm (fun x => w x.1 x.2) l
  | m, [] => rfl
  | m, (p, r) :: l => by
    show sm _ ((p, m + 1, r) :: adrL (m + 1) l) = _
    rw [sm_cons, sm_cons, adrL_sm]
theorem putAll_perm : ∀ {l : List (Int × Rc)} {m : Int} {P : List Pg}, (P.map (·.1)).Nodup → (l.map (·.1)).Nodup → (putAll m P l).Perm (adrL m l ++ P.filter fun e => decide (e.1 ∉ l.map (·.1)))
  | [], m, P, nd, _ => by
    show P.Perm (P.filter _)
    rw [List.filter_eq_self.mpr fun e _ => by simp]
  | (p, r) :: l, m, P, nd, hl => by
    rw [List.map_cons, List.nodup_cons] at hl
    have h1 := pput_perm (p := p) (a := m + 1) (r := r) nd
    have nd1 : ((pput P p (m + 1) r).map (·.1)).Nodup := by
      rw [(h1.map _).nodup_iff, List.map_cons, List.nodup_cons]
      refine ⟨fun h => ?_, List.Sublist.nodup (List.Sublist.map _ List.filter_sublist) nd⟩
      obtain ⟨e, he, q⟩ := List.mem_map.mp h
      exact of_decide_eq_true (List.mem_filter.mp he).2 q
    have h2 := putAll_perm (l := l) (m := m + 1) nd1 hl.2
    show (putAll (m + 1) (pput P p (m + 1) r) l).Perm ((p, m + 1, r) :: adrL (m + 1) l ++ _)
    refine h2.trans ?_
    have h3 := h1.filter (fun e => decide (e.1 ∉ l.map (·.1)))
    rw [List.filter_cons_of_pos (by simpa using hl.1), List.filter_filter] at h3
    have h4 : (P.filter fun e => decide (e.1 ∉ l.map (·.1)) && decide (e.1 ≠ p)) = P.filter fun e => decide (e.1 ∉ ((p, r) :: l).map (·.1)) := by
      apply List.filter_congr
      intro e _
      rw [List.map_cons, ← Bool.decide_and]
      apply decide_eq_decide.mpr
      rw [List.mem_cons]
      constructor
      · rintro ⟨h5, h6⟩ (h7 | h7)
        · exact h6 h7
        · exact h5 h7
      · exact fun h => ⟨fun h5 => h (.inr h5), fun h5 => h (.inl h5)⟩
    rw [h4] at h3
    exact (h3.append_left _).trans List.perm_middle
/-! placing the pages -/
def sg (F : List Int) (s : Slot) : Slot := (rp F s.1, s.2)
theorem kidsF_ren {F : List Int} {lv : Int} {hi : Option Int} : ∀ {lo : Option Int} {ks ps : List Int}, kidsF lv lo hi ks (ps.map (rp F)) = (kidsF lv lo hi ks ps).map (sg F)
  | lo, [], [] => rfl
  | lo, [], p :: ps => rfl
  | lo, k :: ks, [] => rfl
  | lo, k :: ks, p :: ps => by
    show _ :: kidsF lv (some k) hi ks (ps.map (rp F)) = _
    rw [kidsF_ren]
    rfl
theorem kids_ren {F : List Int} {r : Rc} : kids (ren F r) = (kids r).map (sg F) := by
  cases r with
  | inner lv lo hi ks ps => exact kidsF_ren
  | _ => rfl
theorem its_ren {F : List Int} {r : Rc} : its (ren F r) = its r := by cases r <;> rfl
theorem isF_ren {F : List Int} {r : Rc} : isF (ren F r) = isF r := by cases r <;> rfl
theorem lo_ren {F : List Int} {r : Rc} : lo_ (ren F r) = lo_ r := by cases r <;> rfl
theorem hi_ren {F : List Int} {r : Rc} : hi_ (ren F r) = hi_ r := by cases r <;> rfl
theorem lvl_ren {F : List Int} {r : Rc} : lvl (ren F r) = lvl r := by cases r <;> rfl
theorem sz_ren {F : List Int} {r : Rc} : sz (ren F r) = sz r := by
  cases r with
  | inner lv lo hi ks ps => exact List.length_map _
  | _ => rfl
theorem Ok_ren {F : List Int} {r : Rc} (h : Ok r) : Ok (ren F r) := by
  cases r with
  | inner lv lo hi ks ps =>
    have O : OkI lv lo hi ks ps := h
    exact ⟨O.lv, (List.length_map _).trans O.len, O.lh, O.asc, O.ins, O.few⟩
  | _ => exact h
theorem off_ren {F : List Int} {p : Int} {r : Rc} (h : rp F p = 0 ↔ p = 0) : off (rp F p) (ren F r) = (off p r).map (sg F) := by
  unfold off
  rw [isF_ren, lo_ren, hi_ren, lvl_ren]
  by_cases q : p = 0 ∨ isF r = true
  · rw [if_pos q, if_pos (q.imp h.mpr id)]
    rfl
  · rw [if_neg q, if_neg (fun h2 => q (h2.imp h.mp id))]
    rfl
theorem rp_pos {F : List Int} {p : Int} (h : 0 ≤ p) : rp F p = p := by
  unfold rp
  rw [if_neg (by omega)]
theorem rp_neg {F : List Int} {p : Int} (h : p < 0) (h2 : -(F.length : Int) ≤ p) : ∃ h3 : (-1 - p).toNat < F.length, rp F p = F[(-1 - p).toNat] := by
  have h3 : (-1 - p).toNat < F.length := by omega
  refine ⟨h3, ?_⟩
  unfold rp
  rw [if_pos h, List.getElem?_eq_getElem h3]
  rfl
theorem rp_mem {F : List Int} {p : Int} (h : p < 0) (h2 : -(F.length : Int) ≤ p) : rp F p ∈ F := by
  obtain ⟨h3, e⟩ := rp_neg h h2
  rw [e]
  exact List.getElem_mem h3
section
variable {P : List Pg} {r0 r1 : Rc} {lp : Int} {R : List Tr} {fr : Nat} {F : List Int}
theorem plan_inj (T : Plan P r0 r1 lp R fr) (hF : F.length = fr) (ndF : F.Nodup) (hE : ∀ p ∈ F, 1 ≤ p ∧ p < 200 ∧ Empty P p) {t u : Tr} (ht : t ∈ R) (hu : u ∈ R) (h : rp F t.p = rp F u.p) : t.p = u.p := by
  have real : ∀ {t u : Tr}, t ∈ R → u ∈ R → 0 ≤ t.p → u.p < 0 → rp F t.p ≠ rp F u.p := fun {t u} ht hu h0 h1 e => by
    rcases T.pg u hu with ⟨_, q2, _⟩ | ⟨q1, _⟩
    · rcases T.pg t ht with ⟨q3, _⟩ | ⟨_, q4, q5⟩
      · omega
      · have hm := rp_mem (F := F) h1 (by omega)
        rw [← e, rp_pos h0] at hm
        have := (hE _ hm).2.2 _ q4 rfl
        simp only at this
        rw [q5] at this
        cases this
    · omega
  by_cases h0 : 0 ≤ t.p
  · by_cases h1 : 0 ≤ u.p
    · rwa [rp_pos h0, rp_pos h1] at h
    · exact absurd h (real ht hu h0 (by omega))
  · by_cases h1 : 0 ≤ u.p
    · exact absurd h.symm (real hu ht h1 (by omega))
    · rcases T.pg t ht with ⟨q1, q2, _⟩ | ⟨q1, _⟩
      · rcases T.pg u hu with ⟨q3, q4, _⟩ | ⟨q3, _⟩
        · obtain ⟨k1, e1⟩ := rp_neg (F := F) q1 (by omega)
          obtain ⟨k2, e2⟩ := rp_neg (F := F) q3 (by omega)
          rw [e1, e2] at h
          have := (List.getElem_inj ndF).mp h
          omega
        · omega
      · omega
theorem rp_zero (T : Plan P r0 r1 lp R fr) (hF : F.length = fr) (hE : ∀ p ∈ F, 1 ≤ p ∧ p < 200 ∧ Empty P p) {t : Tr} (ht : t ∈ R) : rp F t.p = 0 ↔ t.p = 0 := by
  constructor
  · intro h
    rcases T.pg t ht with ⟨q1, q2, _⟩ | ⟨q1, _⟩
    · have hm := rp_mem (F := F) q1 (by omega)
      have := (hE _ hm).1
      omega
    · rwa [rp_pos q1] at h
  · intro h
    rw [rp_pos (by omega), h]
theorem sm_filter {α : Type} {f : α → Nat} {p : α → Bool} : ∀ {l : List α}, (∀ x ∈ l, p x = false → f x = 0) → sm f (l.filter p) = sm f l
  | [], _ => rfl
  | x :: l, h => by
    have ih := sm_filter (l := l) fun y hy => h y (List.mem_cons_of_mem _ hy)
    cases q : p x with
    | true => rw [List.filter_cons_of_pos q, sm_cons, sm_cons, ih]
    | false => rw [List.filter_cons_of_neg (by rw [q]; decide), sm_cons, ih, h x List.mem_cons_self q, Nat.zero_add]
theorem sm_app2 {α : Type} {f : α → Nat} : ∀ {l l' : List α}, sm f (l ++ l') = sm f l + sm f l'
  | [], l' => by rw [List.nil_append, sm_nil, Nat.zero_add]
  | x :: l, l' => by rw [List.cons_append, sm_cons, sm_cons, sm_app2, Nat.add_assoc]
theorem sm_map {α β : Type} {f : β → Nat} {g : α → β} : ∀ {l : List α}, sm f (l.map g) = sm (fun x => f (g x)) l
  | [] => rfl
  | x :: l => by rw [List.map_cons, sm_cons, sm_cons, sm_map]
/-- the records that a plan replaces -/
theorem old_sum (X : Exact P) (T : Plan P r0 r1 lp R fr) (hF : F.length = fr) (hE : ∀ p ∈ F, 1 ≤ p ∧ p < 200 ∧ Empty P p) {w : Int → Rc → Nat} (hw : ∀ p r, isF r = true → w p r = 0) :
    sm (fun e : Pg => w e.1 e.2.2) (P.filter fun e => !decide (e.1 ∉ R.map fun t => rp F t.p)) = sm (fun t : Tr => w t.p t.old) R := by
  have e1 : sm (fun t : Tr => w t.p t.old) (R.filter fun t => decide (0 ≤ t.p)) = sm (fun t : Tr => w t.p t.old) R := sm_filter fun t ht hn => by
    have hn := of_decide_eq_false hn
    rcases T.pg t ht with ⟨_, _, q⟩ | ⟨q, _⟩
    · rw [q]
      exact hw _ _ rfl
    · omega
  have e2 : sm (fun e : Pg => w e.1 e.2.2) ((P.filter fun e => !decide (e.1 ∉ R.map fun t => rp F t.p)).filter fun e => !isF e.2.2) = sm (fun e : Pg => w e.1 e.2.2) (P.filter fun e => !decide (e.1 ∉ R.map fun t => rp F t.p)) := sm_filter fun e he hn => hw _ _ (by simpa using hn)
  rw [← e1, ← e2]
  have e3 : sm (fun t : Tr => w t.p t.old) (R.filter fun t => decide (0 ≤ t.p)) = sm (fun e : Pg => w e.1 e.2.2) ((R.filter fun t => decide (0 ≤ t.p)).map fun t => ((t.p, t.a, t.old) : Pg)) := by rw [sm_map]
  rw [e3]
  apply perm_sm
  have n1 : ((P.filter fun e => !decide (e.1 ∉ R.map fun t => rp F t.p)).filter fun e => !isF e.2.2).Nodup := List.Sublist.nodup (List.filter_sublist.trans List.filter_sublist) (nd_map X.nd)
  have n2 : ((R.filter fun t => decide (0 ≤ t.p)).map fun t => ((t.p, t.a, t.old) : Pg)).Nodup := by
    refine nd_map (f := fun e : Pg => e.1) ?_
    rw [List.map_map]
    exact List.Sublist.nodup (List.filter_sublist.map (fun t : Tr => t.p)) T.nd
  refine (List.perm_ext_iff_of_nodup n1 n2).mpr fun e => ?_
  constructor
  · intro h
    obtain ⟨h1, h2⟩ := List.mem_filter.mp h
    obtain ⟨h3, h4⟩ := List.mem_filter.mp h1
    have hl : isF e.2.2 = false := by simpa using h2
    have h5 : e.1 ∈ R.map fun t => rp F t.p := by simpa using h4
    obtain ⟨t, ht, q⟩ := List.mem_map.mp h5
    rcases T.pg t ht with ⟨q1, q2, _⟩ | ⟨q1, q2, _⟩
    · have hm := rp_mem (F := F) q1 (by omega)
      have := (hE _ hm).2.2 e h3 q.symm
      rw [hl] at this
      cases this
    · rw [rp_pos q1] at q
      refine List.mem_map.mpr ⟨t, List.mem_filter.mpr ⟨ht, decide_eq_true q1⟩, ?_⟩
      exact nd_eq X.nd q2 h3 q
  · intro h
    obtain ⟨t, ht, rfl⟩ := List.mem_map.mp h
    obtain ⟨ht, hp⟩ := List.mem_filter.mp ht
    have hp := of_decide_eq_true hp
    rcases T.pg t ht with ⟨q1, _⟩ | ⟨q1, q2, q3⟩
    · omega
    · refine List.mem_filter.mpr ⟨List.mem_filter.mpr ⟨q2, ?_⟩, ?_⟩
      · have : t.p ∈ R.map fun t => rp F t.p := List.mem_map.mpr ⟨t, ht, rp_pos q1⟩
        simp only [decide_not, Bool.not_not, decide_eq_true_eq]
        exact this
      · simp only [Bool.not_eq_true']
        exact q3
structure After (P P' : List Pg) (r0 r1 : Rc) (R : List Tr) : Prop where
  ex : Exact P'
  itm : ∀ x, sm (fun e : Pg => (its e.2.2).count x) P' + (its r0).count x = sm (fun e : Pg => (its e.2.2).count x) P + (its r1).count x
  keep : ∀ e ∈ P, live e.2.2 → e.1 ∉ R.map (·.p) → e ∈ P'
  new : ∀ t ∈ R, 0 ≤ t.p → ∃ a r, (t.p, a, r) ∈ P' ∧ ∀ e ∈ P, e.2.1 < a
theorem after_ok (X : Exact P) (T : Plan P r0 r1 lp R fr) (hF : F.length = fr) (ndF : F.Nodup) (hE : ∀ p ∈ F, 1 ≤ p ∧ p < 200 ∧ Empty P p) {m : Int} (hm : ∀ e ∈ P, e.2.1 ≤ m) : After P (putAll m P (R.map fun t => (rp F t.p, ren F t.new))) r0 r1 R := by
  have hpg : (R.map fun t => (rp F t.p, ren F t.new)).map (·.1) = R.map fun t => rp F t.p := by rw [List.map_map]; rfl
  have ndl : ((R.map fun t => (rp F t.p, ren F t.new)).map (·.1)).Nodup := by
    rw [hpg]
    have inj : ∀ L : List Tr, (∀ t ∈ L, t ∈ R) → (L.map (·.p)).Nodup → (L.map fun t => rp F t.p).Nodup := by
      intro L
      induction L with
      | nil => intro _ _; exact List.nodup_nil
      | cons t L ih =>
        intro h1 h2
        rw [List.map_cons, List.nodup_cons] at h2 ⊢
        refine ⟨fun h => ?_, ih (fun u hu => h1 u (List.mem_cons_of_mem _ hu)) h2.2⟩
        obtain ⟨u, hu, q⟩ := List.mem_map.mp h
        exact h2.1 (List.mem_map.mpr ⟨u, hu, plan_inj T hF ndF hE (h1 u (List.mem_cons_of_mem _ hu)) (h1 t List.mem_cons_self) q⟩)
    exact inj R (fun t h => h) T.nd
  have pp := putAll_perm (m := m) X.nd ndl
  rw [hpg] at pp
  have pP := List.filter_append_perm (fun e : Pg => decide (e.1 ∉ R.map fun t => rp F t.p)) P
  generalize hP' : putAll m P (R.map fun t => (rp F t.p, ren F t.new)) = P' at pp ⊢
  have hsum : ∀ w : Int → Rc → Nat, (∀ p r, isF r = true → w p r = 0) → sm (fun e : Pg => w e.1 e.2.2) P' + sm (fun t : Tr => w t.p t.old) R = sm (fun e : Pg => w e.1 e.2.2) P + sm (fun t : Tr => w (rp F t.p) (ren F t.new)) R := fun w hw => by
    rw [perm_sm pp, sm_app2, ← perm_sm pP, sm_app2, old_sum X T hF hE hw, adrL_sm (w := w), sm_map]
    dsimp only
    omega
  have mem' : ∀ e, e ∈ P' → (∃ t ∈ R, e.1 = rp F t.p ∧ e.2.2 = ren F t.new ∧ m < e.2.1) ∨ (e ∈ P ∧ e.1 ∉ R.map fun t => rp F t.p) := fun e he => by
    rcases List.mem_append.mp (pp.subset he) with h | h
    · obtain ⟨h1, h2⟩ := adrL_mem h
      obtain ⟨t, ht, q⟩ := List.mem_map.mp h1
      exact .inl ⟨t, ht, (congrArg (·.1) q).symm, (congrArg (·.2) q).symm, h2⟩
    · obtain ⟨h1, h2⟩ := List.mem_filter.mp h
      exact .inr ⟨h1, of_decide_eq_true h2⟩
  have memN : ∀ t ∈ R, ∃ a, m < a ∧ (rp F t.p, a, ren F t.new) ∈ P' := fun t ht => by
    obtain ⟨a, h1, h2⟩ := mem_adrL (m := m) (List.mem_map.mpr ⟨t, ht, rfl⟩ : (rp F t.p, ren F t.new) ∈ R.map fun t => (rp F t.p, ren F t.new))
    exact ⟨a, h1, pp.symm.subset (List.mem_append_left _ h2)⟩
  have memK : ∀ e ∈ P, (e.1 ∉ R.map fun t => rp F t.p) → e ∈ P' := fun e he h => pp.symm.subset (List.mem_append_right _ (List.mem_filter.mpr ⟨he, decide_eq_true h⟩))
  have nd' : (P'.map (·.1)).Nodup := by
    rw [(pp.map _).nodup_iff, List.map_append, List.nodup_append, adrL_pages]
    refine ⟨ndl, List.Sublist.nodup (List.filter_sublist.map _) X.nd, fun a ha b hb => ?_⟩
    obtain ⟨e, he, rfl⟩ := List.mem_map.mp hb
    have := of_decide_eq_true (List.mem_filter.mp he).2
    rw [hpg] at ha
    exact fun e => this (e ▸ ha)
  refine ⟨⟨nd', fun e he => ?_, ?_, fun e he hl => ?_, fun s => ?_⟩, fun x => ?_, fun e he hl hn => ?_, fun t ht h0 => ?_⟩
  · rcases mem' e he with ⟨t, ht, q, _⟩ | ⟨h, _⟩
    · rw [q]
      rcases T.pg t ht with ⟨q1, q2, _⟩ | ⟨q1, q2, _⟩
      · have h := hE _ (rp_mem (F := F) q1 (by omega))
        omega
      · rw [rp_pos q1]
        exact X.rng _ q2
    · exact X.rng e h
  · by_cases h : (0 : Int) ∈ R.map fun t => rp F t.p
    · obtain ⟨t, ht, q⟩ := List.mem_map.mp h
      obtain ⟨a, _, hm'⟩ := memN t ht
      obtain ⟨h1, h2, h3⟩ := T.root t ht ((rp_zero T hF hE ht).mp q)
      rw [q] at hm'
      exact ⟨a, _, hm', by show isF _ = false; rw [isF_ren]; exact h1, by rw [lo_ren]; exact h2, by rw [hi_ren]; exact h3⟩
    · obtain ⟨a, r, hr, h1⟩ := X.root
      exact ⟨a, r, memK _ hr h, h1⟩
  · rcases mem' e he with ⟨t, ht, q1, q2, _⟩ | ⟨h, _⟩
    · rw [q2] at hl ⊢
      rw [q1]
      have hl' : live t.new := by
        have : isF (ren F t.new) = false := hl
        rwa [isF_ren] at this
      obtain ⟨o1, o2⟩ := T.sized t ht hl'
      refine ⟨Ok_ren o1, ?_⟩
      unfold Sized most at o2 ⊢
      rw [sz_ren, lvl_ren]
      refine ⟨o2.1, o2.2.imp (fun h => ⟨(rp_zero T hF hE ht).mpr h.1, h.2⟩) id⟩
    · exact X.ok e h hl
  · rw [sm_count, sm_count]
    have h1 := hsum (fun _ r => (kids r).count s) (fun p r h => by cases r <;> first | rfl | cases h)
    have h2 := hsum (fun p r => (off p r).count s) (fun p r h => by unfold off; rw [if_pos (.inr h)]; rfl)
    have h3 := X.bal s
    rw [sm_count, sm_count] at h3
    -- the plan's balance, placed
    have hb : ((R.flatMap fun t => kids t.new) ++ (R.flatMap fun t => off t.p t.old)).Perm ((R.flatMap fun t => off t.p t.new) ++ (R.flatMap fun t => kids t.old)) := List.perm_iff_count.mpr fun y => by
      rw [List.count_append, List.count_append, sm_count, sm_count, sm_count, sm_count]
      exact T.bal y
    have hb2 := (hb.map (sg F)).count_eq s
    rw [List.map_append, List.map_append, List.count_append, List.count_append, List.map_flatMap, List.map_flatMap, List.map_flatMap, List.map_flatMap, sm_count, sm_count, sm_count, sm_count] at hb2
    have c1 : sm (fun t : Tr => ((kids t.new).map (sg F)).count s) R = sm (fun t : Tr => (kids (ren F t.new)).count s) R := sm_eq fun t _ => by rw [kids_ren]
    have c2 : sm (fun t : Tr => ((off t.p t.new).map (sg F)).count s) R = sm (fun t : Tr => (off (rp F t.p) (ren F t.new)).count s) R := sm_eq fun t ht => by rw [off_ren (rp_zero T hF hE ht)]
    have idp : ∀ l : List Slot, (∀ y ∈ l, 0 ≤ y.1) → l.map (sg F) = l := fun l hl => by
      conv => rhs; rw [← List.map_id l]
      apply List.map_congr_left
      intro y hy
      unfold sg
      rw [rp_pos (hl y hy)]
      rfl
    have c3 : sm (fun t : Tr => ((kids t.old).map (sg F)).count s) R = sm (fun t : Tr => (kids t.old).count s) R := sm_eq fun t ht => by
      rw [idp]
      intro y hy
      rcases T.pg t ht with ⟨_, _, q⟩ | ⟨_, q2, _⟩
      · rw [q] at hy
        cases hy
      · obtain ⟨e', he', hs, _⟩ := X.child q2 hy
        rw [hs]
        exact (X.rng e' he').1
    have c4 : sm (fun t : Tr => ((off t.p t.old).map (sg F)).count s) R = sm (fun t : Tr => (off t.p t.old).count s) R := sm_eq fun t ht => by
      rw [idp]
      intro y hy
      obtain ⟨o1, o2, rfl⟩ := off_mem hy
      rcases T.pg t ht with ⟨_, _, q⟩ | ⟨q1, _⟩
      · rw [q] at o2
        cases o2
      · exact q1
    rw [c1, c2, c3, c4] at hb2
    omega
  · have h1 := hsum (fun _ r => (its r).count x) (fun p r h => by cases r <;> first | rfl | cases h)
    have h2 := T.itm x
    have c1 : sm (fun t : Tr => (its (ren F t.new)).count x) R = sm (iN x) R := sm_eq fun t _ => by rw [its_ren]; rfl
    rw [c1] at h1
    have c2 : sm (fun t : Tr => (its t.old).count x) R = sm (iO x) R := rfl
    rw [c2] at h1
    omega
  · refine memK e he fun h => ?_
    obtain ⟨t, ht, q⟩ := List.mem_map.mp h
    rcases T.pg t ht with ⟨q1, q2, _⟩ | ⟨q1, q2, _⟩
    · have := (hE _ (rp_mem (F := F) q1 (by omega))).2.2 e he q.symm
      have hl : isF e.2.2 = false := hl
      rw [hl] at this
      cases this
    · rw [rp_pos q1] at q
      exact hn (List.mem_map.mpr ⟨t, ht, q⟩)
  · obtain ⟨a, h1, h2⟩ := memN t ht
    rw [rp_pos h0] at h2
    exact ⟨a, _, h2, fun e he => by have := hm e he; omega⟩
end
end K32
end
section
set_option Elab.async false
set_option linter.all false
set_option maxRecDepth 100000
set_option maxHeartbeats 1000000
/-! the law's map: its parts -/
namespace K32
open PySem PySem.Spec PyProof.Rows L2
local macro_rules | `(tactic| walk_at "ev") => `(tactic| simp only [ev_f2, ev_f1, ev_fC, ev_v0, ev_vs, ev_c0, ev_c1, ev_c2, ev_cs, ev_call, ev_all0, ev_all1, ev_tup, ev_lst, ev_T, ev_andT, ev_orT, ev_notT, ev_and, ev_or, ev_not, ev_if, ev_seq, ev_nx, ev_bk, ev_no, ev_set, ev_M, ev_ret, ev_drop, ev_un, ev_ns1, ev_ns0, ev_sl, ev_o0, ev_o1, ev_neg, ev_ch, ev_fz0, ev_fz1, ev_fz2, ev_fz3, ev_fz4, ev_fz5, ev_st0, ev_sts, fn_0, fn_1, fn_2, fn_3, fn_4, fn_5,
  j_b1, j_b2, j_bL, j_cL, j_mD, j_bT, j_andT, j_andF, j_orF, j_orT, j_not, j_bl, j_aDT, j_aDF, j_oDF, j_oDT, j_ifT, j_ifF, j_seqN, j_seqR, j_seqB, j_set, j_pM, j_ret, j_drop, j_un, j_sl, j_some, j_chT, j_chF, j_chP, j_endR, j_endN, j_nones0, j_nonesS, ix0, ix1, ix2, ix3, ix4, ix5,
  d_lt, d_le, d_gt, d_ge, d_addI, d_sub, d_lenL, d_eqI, d_eqS, d_eqNI, d_eqIN, d_eqNN, d_neI, d_neS, d_neNI, d_neIN, d_neNN, d_isNN, d_isNI, d_isNB, d_isNT, d_isND, d_notNN, d_notNI, d_notNT, d_notND, d_slT, d_neg, d_tupT, d_tupL, d_listL, d_dict, d_intI, d_intB,
  List.length_cons, List.length_nil, Nat.reduceAdd, Nat.reduceSub, if_true, if_false, reduceIte, Bool.not_true, Bool.not_false, decide_true, decide_false, Bool.false_eq_true, tI_len, ev_for, ev_r1, ev_r2, ev_r3, ev_iT, ev_iL, ev_lc, ev_yes, j_for, j_iT, j_iTI, j_iL, isi_tup, isi_tI, isi_int, isi_ib, isi_non, dtup_tI, cut51, cut61, cut62, cut605, cut513, cut624, ixm5, ixm6, d_len2, d_len3, d_len4, d_len5, d_len6, s_ll, s_il, s_ii, s_fl, s_fi, s_li, s_ff, s_lf, s_if, eq_self, gs_0, gs_s, ev_app, ev_put, ev_pop, ev_ownL, ev_ownD, ev_ownC, ev_get2, j_ownL, j_ownC, j_b3, d_get, at_0, at_s, ev_putR, ev_putA, ev_fresh, ev_fld, ev_meth, ev_aM0, ev_aM1, ev_tupM, ev_make, j_fresh, j_fld, j_meth, j_mO, j_aM1, j_aM2, j_tM2, j_make, j_endMR, j_endMN, fnM_0, fnM_1, fnM_2, fnM_4, dr_fr, encS_def, eq_bds, ne_bds, Int.reduceLT, Int.reduceLE, Int.reduceEq, Int.reduceNeg])
local macro_rules | `(tactic| walk_at "evh") => `(tactic| simp only [*, ev_f2, ev_f1, ev_fC, ev_v0, ev_vs, ev_c0, ev_c1, ev_c2, ev_cs, ev_call, ev_all0, ev_all1, ev_tup, ev_lst, ev_T, ev_andT, ev_orT, ev_notT, ev_and, ev_or, ev_not, ev_if, ev_seq, ev_nx, ev_bk, ev_no, ev_set, ev_M, ev_ret, ev_drop, ev_un, ev_ns1, ev_ns0, ev_sl, ev_o0, ev_o1, ev_neg, ev_ch, ev_fz0, ev_fz1, ev_fz2, ev_fz3, ev_fz4, ev_fz5, ev_st0, ev_sts, fn_0, fn_1, fn_2, fn_3, fn_4, fn_5,
  j_b1, j_b2, j_bL, j_cL, j_mD, j_bT, j_andT, j_andF, j_orF, j_orT, j_not, j_bl, j_aDT, j_aDF, j_oDF, j_oDT, j_ifT, j_ifF, j_seqN, j_seqR, j_seqB, j_set, j_pM, j_ret, j_drop, j_un, j_sl, j_some, j_chT, j_chF, j_chP, j_endR, j_endN, j_nones0, j_nonesS, ix0, ix1, ix2, ix3, ix4, ix5,
  d_lt, d_le, d_gt, d_ge, d_addI, d_sub, d_lenL, d_eqI, d_eqS, d_eqNI, d_eqIN, d_eqNN, d_neI, d_neS, d_neNI, d_neIN, d_neNN, d_isNN, d_isNI, d_isNB, d_isNT, d_isND, d_notNN, d_notNI, d_notNT, d_notND, d_slT, d_neg, d_tupT, d_tupL, d_listL, d_dict, d_intI, d_intB,
  List.length_cons, List.length_nil, Nat.reduceAdd, Nat.reduceSub, if_true, if_false, reduceIte, Bool.not_true, Bool.not_false, decide_true, decide_false, Bool.false_eq_true, tI_len, ev_for, ev_r1, ev_r2, ev_r3, ev_iT, ev_iL, ev_lc, ev_yes, j_for, j_iT, j_iTI, j_iL, isi_tup, isi_tI, isi_int, isi_ib, isi_non, dtup_tI, cut51, cut61, cut62, cut605, cut513, cut624, ixm5, ixm6, d_len2, d_len3, d_len4, d_len5, d_len6, s_ll, s_il, s_ii, s_fl, s_fi, s_li, s_ff, s_lf, s_if, eq_self, gs_0, gs_s, ev_app, ev_put, ev_pop, ev_ownL, ev_ownD, ev_ownC, ev_get2, j_ownL, j_ownC, j_b3, d_get, at_0, at_s, ev_putR, ev_putA, ev_fresh, ev_fld, ev_meth, ev_aM0, ev_aM1, ev_tupM, ev_make, j_fresh, j_fld, j_meth, j_mO, j_aM1, j_aM2, j_tM2, j_make, j_endMR, j_endMN, fnM_0, fnM_1, fnM_2, fnM_4, dr_fr, encS_def, eq_bds, ne_bds, Int.reduceLT, Int.reduceLE, Int.reduceEq, Int.reduceNeg])

def encSl (s : Slot) : D := .tup [.int s.1, bd s.2.1, bd s.2.2.1, .int s.2.2.2]
def b_asc : FS := (gSeq (gIf (fAndT (fT (f2 dGt (fVar 3) (fC (.int 0)))) (fT (f2 dGe (f2 dIx (fVar 0) (f2 dSub (fVar 3) (fC (.int 1)))) (f2 dIx (fVar 0) (fVar 3))))) (gRet (fM (fC (.bl false)))) gNx)
  (gIf (fOrT (fAndT (fT (f2 dNotN (fVar 1) (fC .non))) (fT (f2 dLt (f2 dIx (fVar 0) (fVar 3)) (fVar 1)))) (fAndT (fT (f2 dNotN (fVar 2) (fC .non))) (fT (f2 dGe (f2 dIx (fVar 0) (fVar 3)) (fVar 2))))) (gRet (fM (fC (.bl false)))) gNx))
theorem lasc_ok {lo hi : Option Int} {ks : List Int} (few : ks.length ≤ 1000) (asc : ks.Pairwise (· < ·)) (cov : ∀ k ∈ ks, geLo lo k ∧ ltHi hi k) : fn_law_ascending [tI ks, bd lo, bd hi] = some (.bl true) := by
  obtain ⟨ρ', e, x, rfl⟩ := loop_inv (bi := bName 3) (body := b_asc) (ds := rngD 0 1 ((ks.length : Int)).toNat)
    (fun _ ρ => ∃ x, ρ = [some (.fz (tI ks)), some (.fz (bd lo)), some (.fz (bd hi)), x]) (ρ := [some (.fz (tI ks)), some (.fz (bd lo)), some (.fz (bd hi)), none]) 0 ⟨none, rfl⟩ (by
      rintro i d ρ hd ⟨x, rfl⟩
      obtain ⟨hin, rfl⟩ := rngD_get hd
      have h1 : i < ks.length := by omega
      have e0 : 0 + (i : Int) * 1 = (i : Int) := by omega
      have e1 : dIx (tI ks) (.int (i : Int)) = some (.int ks[i]) := tI_ix (List.getElem?_eq_getElem h1)
      obtain ⟨c1, c2⟩ := cov _ (List.getElem_mem h1)
      refine ⟨[some (.fz (tI ks)), some (.fz (bd lo)), some (.fz (bd hi)), some (.fz (.int (i : Int)))], [some (.fz (tI ks)), some (.fz (bd lo)), some (.fz (bd hi)), some (.fz (.int (i : Int)))], by rw [e0]; rfl, ?_, _, rfl⟩
      have first : andO (some (decide ((0 : Int) < (i : Int)))) (fT (f2 dGe (f2 dIx (fVar 0) (f2 dSub (fVar 3) (fC (.int 1)))) (f2 dIx (fVar 0) (fVar 3)))) [some (.fz (tI ks)), some (.fz (bd lo)), some (.fz (bd hi)), some (.fz (.int (i : Int)))] = some false := by
        by_cases q : 0 < i
        · rw [decide_eq_true (by omega)]
          have e2 : dIx (tI ks) (.int ((i : Int) - 1)) = some (.int (ks[i - 1]'(by omega))) := by
            rw [show (i : Int) - 1 = ((i - 1 : Nat) : Int) by omega]
            exact tI_ix (List.getElem?_eq_getElem (by omega))
          have hlt : ks[i - 1]'(by omega) < ks[i] := List.pairwise_iff_getElem.mp asc (i - 1) i (by omega) h1 (by omega)
          walk_at "ev"
          rw [e1, e2]
          walk_at "ev"
          rw [decide_eq_false (by omega)]
        · rw [decide_eq_false (by omega)]
          rfl
      unfold b_asc
      walk_at "ev"
      rw [first]
      walk_at "ev"
      have lo' : (lo = none) ∨ ∃ l, lo = some l ∧ decide (ks[i] < l) = false := by
        cases lo with
        | none => exact .inl rfl
        | some l => exact .inr ⟨l, rfl, decide_eq_false (by have := c1 l rfl; omega)⟩
      have hi' : (hi = none) ∨ ∃ l, hi = some l ∧ decide (l ≤ ks[i]) = false := by
        cases hi with
        | none => exact .inl rfl
        | some l => exact .inr ⟨l, rfl, decide_eq_false (by have := c2 l rfl; omega)⟩
      clear first cov few asc c1 c2 hd hin
      rcases lo' with rfl | ⟨l, rfl, hl⟩ <;> rcases hi' with rfl | ⟨h, rfl, hh⟩ <;> simp only [bd_none, bd_some] <;> walk_at "ev" <;> (try rw [e1]) <;> (try walk_at "ev") <;> (try rw [hl]) <;> (try walk_at "ev") <;> (try rw [e1]) <;> (try walk_at "ev") <;> (try rw [hh]) <;> (try walk_at "ev"))
  unfold b_asc at e
  unfold fn_law_ascending g_law_ascending
  walk_at "ev"
  rw [j_r1 (small_ok (by omega) (by omega))]
  walk_at "ev"
  rw [e]
  walk_at "ev"
theorem kidsF_get {lv : Int} {hi : Option Int} : ∀ {lo : Option Int} {ks ps : List Int} {i : Nat} {p : Int}, ps.length = ks.length + 1 → ps[i]? = some p → (kidsF lv lo hi ks ps)[i]? = some (p, cbLo lo ks i, cbHi hi ks i, lv) := by
  intro lo ks
  induction ks generalizing lo with
  | nil =>
    intro ps i p h hp
    obtain ⟨q, rfl⟩ : ∃ q, ps = [q] := by
      rcases ps with _ | ⟨q, _ | ⟨r, ps⟩⟩
      · simp at h
      · exact ⟨q, rfl⟩
      · simp at h
    cases i with
    | zero => cases hp; rfl
    | succ i => simp at hp
  | cons k ks ih =>
    intro ps i p h hp
    obtain ⟨q, ps, rfl⟩ : ∃ q qs, ps = q :: qs := by
      cases ps with
      | nil => simp at h
      | cons q qs => exact ⟨q, qs, rfl⟩
    cases i with
    | zero =>
      obtain rfl : q = p := by simpa using hp
      show some (q, lo, some k, lv) = _
      simp [cbLo, cbHi]
    | succ i =>
      have := ih (lo := some k) (ps := ps) (i := i) (p := p) (by simpa using h) (by simpa using hp)
      have c1 : cbLo lo (k :: ks) (i + 1) = cbLo (some k) ks i := by
        unfold cbLo
        cases i <;> simp
      have c2 : cbHi hi (k :: ks) (i + 1) = cbHi hi ks i := by
        unfold cbHi
        simp
      show (kidsF lv (some k) hi ks ps)[i]? = _
      rw [this, c1, c2]
def b_below : FS := (gSeq (gUn [4, 5] (fM (fTup [(f2 dIx (fVar 0) (fC (.int 2))), (f2 dIx (fVar 0) (fC (.int 3)))])))
  (gSeq (gIf (fT (f2 dGt (fVar 3) (fC (.int 0)))) (gSet 4 (fM (f2 dIx (f2 dIx (fVar 0) (fC (.int 4))) (f2 dSub (fVar 3) (fC (.int 1)))))) gNx)
  (gSeq (gIf (fT (f2 dLt (fVar 3) (f1 dLen (f2 dIx (fVar 0) (fC (.int 4)))))) (gSet 5 (fM (f2 dIx (f2 dIx (fVar 0) (fC (.int 4))) (fVar 3)))) gNx)
  (gApp 2 (fTup [(f2 dIx (f2 dIx (fVar 0) (fC (.int 5))) (fVar 3)), (fVar 4), (fVar 5), (f2 dSub (fVar 1) (fC (.int 1)))])))))
theorem below_ok {lv : Int} {lo hi : Option Int} {ks ps : List Int} (O : OkI lv lo hi ks ps) : fn_law_below [enc (.inner lv lo hi ks ps), .int lv] = some (.lst ((kids (.inner lv lo hi ks ps)).map encSl)) := by
  have len := O.len
  have few := O.few
  have kl : (kids (.inner lv lo hi ks ps)).length = ps.length := kidsF_len O.len
  obtain ⟨ρ', e, x3, x4, x5, rfl⟩ := loop_inv (bi := bName 3) (body := b_below) (ds := rngD 0 1 ((ps.length : Int)).toNat)
    (fun t ρ => ∃ x3 x4 x5, ρ = [some (.fz (.tup [.str "inner", .int lv, bd lo, bd hi, tI ks, tI ps])), some (.fz (.int lv)), some (.ol (((kids (.inner lv lo hi ks ps)).take t).map encSl)), x3, x4, x5])
    (ρ := [some (.fz (.tup [.str "inner", .int lv, bd lo, bd hi, tI ks, tI ps])), some (.fz (.int lv)), some (.ol []), none, none, none]) 0 ⟨none, none, none, rfl⟩ (by
      rintro i d ρ hd ⟨x3, x4, x5, rfl⟩
      obtain ⟨hin, rfl⟩ := rngD_get hd
      have h1 : i < ps.length := by omega
      have e0 : 0 + (i : Int) * 1 = (i : Int) := by omega
      have e1 : dIx (tI ps) (.int (i : Int)) = some (.int ps[i]) := tI_ix (List.getElem?_eq_getElem h1)
      have kg : (kids (.inner lv lo hi ks ps))[i]? = some (ps[i], cbLo lo ks i, cbHi hi ks i, lv - 1) := kidsF_get O.len (List.getElem?_eq_getElem h1)
      have ap : ∀ ρ : En, appO (some (some (.ol (((kids (.inner lv lo hi ks ps)).take (0 + i)).map encSl)))) (some (.tup [.int ps[i], bd (cbLo lo ks i), bd (cbHi hi ks i), .int (lv - 1)])) 2 ρ = some (.nx (ρ.set 2 (some (.ol (((kids (.inner lv lo hi ks ps)).take (0 + i + 1)).map encSl))))) := fun ρ => by
        rw [j_app (by rw [List.length_map, List.length_take]; omega), Nat.zero_add, List.take_add_one, kg, List.map_append]
        rfl
      rw [e0]
      rcases cb_lo (lo := lo) (ks := ks) (i := i) (by omega) with ⟨a1, x, a2, a3⟩ | ⟨a1, a3⟩ <;> rcases cb_hi (hi := hi) (ks := ks) (i := i) with ⟨a4, y, a5, a6⟩ | ⟨a4, a6⟩
      · refine ⟨[some (.fz (.tup [.str "inner", .int lv, bd lo, bd hi, tI ks, tI ps])), some (.fz (.int lv)), some (.ol (((kids (.inner lv lo hi ks ps)).take (0 + i)).map encSl)), some (.fz (.int (i : Int))), x4, x5], [some (.fz (.tup [.str "inner", .int lv, bd lo, bd hi, tI ks, tI ps])), some (.fz (.int lv)), some (.ol (((kids (.inner lv lo hi ks ps)).take (0 + i + 1)).map encSl)), some (.fz (.int (i : Int))), some (.fz (bd (cbLo lo ks i))), some (.fz (bd (cbHi hi ks i)))], rfl, ?_, _, _, _, rfl⟩
        unfold b_below
        walk_at "ev"
        rw [a1]
        walk_at "ev"
        rw [a2]
        walk_at "ev"
        rw [a4]
        walk_at "ev"
        rw [a5]
        walk_at "ev"
        rw [e1]
        walk_at "ev"
        rw [← a3, ← a6, ap]
        rfl
      · refine ⟨[some (.fz (.tup [.str "inner", .int lv, bd lo, bd hi, tI ks, tI ps])), some (.fz (.int lv)), some (.ol (((kids (.inner lv lo hi ks ps)).take (0 + i)).map encSl)), some (.fz (.int (i : Int))), x4, x5], [some (.fz (.tup [.str "inner", .int lv, bd lo, bd hi, tI ks, tI ps])), some (.fz (.int lv)), some (.ol (((kids (.inner lv lo hi ks ps)).take (0 + i + 1)).map encSl)), some (.fz (.int (i : Int))), some (.fz (bd (cbLo lo ks i))), some (.fz (bd (cbHi hi ks i)))], rfl, ?_, _, _, _, rfl⟩
        rw [a6] at ap ⊢
        unfold b_below
        walk_at "ev"
        rw [a1]
        walk_at "ev"
        rw [a2]
        walk_at "ev"
        rw [a4]
        walk_at "ev"
        rw [e1]
        walk_at "ev"
        rw [← a3, ap]
        rfl
      · refine ⟨[some (.fz (.tup [.str "inner", .int lv, bd lo, bd hi, tI ks, tI ps])), some (.fz (.int lv)), some (.ol (((kids (.inner lv lo hi ks ps)).take (0 + i)).map encSl)), some (.fz (.int (i : Int))), x4, x5], [some (.fz (.tup [.str "inner", .int lv, bd lo, bd hi, tI ks, tI ps])), some (.fz (.int lv)), some (.ol (((kids (.inner lv lo hi ks ps)).take (0 + i + 1)).map encSl)), some (.fz (.int (i : Int))), some (.fz (bd (cbLo lo ks i))), some (.fz (bd (cbHi hi ks i)))], rfl, ?_, _, _, _, rfl⟩
        rw [a3] at ap ⊢
        unfold b_below
        walk_at "ev"
        rw [a1]
        walk_at "ev"
        rw [a4]
        walk_at "ev"
        rw [a5]
        walk_at "ev"
        rw [e1]
        walk_at "ev"
        rw [← a6, ap]
        rfl
      · refine ⟨[some (.fz (.tup [.str "inner", .int lv, bd lo, bd hi, tI ks, tI ps])), some (.fz (.int lv)), some (.ol (((kids (.inner lv lo hi ks ps)).take (0 + i)).map encSl)), some (.fz (.int (i : Int))), x4, x5], [some (.fz (.tup [.str "inner", .int lv, bd lo, bd hi, tI ks, tI ps])), some (.fz (.int lv)), some (.ol (((kids (.inner lv lo hi ks ps)).take (0 + i + 1)).map encSl)), some (.fz (.int (i : Int))), some (.fz (bd (cbLo lo ks i))), some (.fz (bd (cbHi hi ks i)))], rfl, ?_, _, _, _, rfl⟩
        rw [a3, a6] at ap ⊢
        unfold b_below
        walk_at "ev"
        rw [a1]
        walk_at "ev"
        rw [a4]
        walk_at "ev"
        rw [e1]
        walk_at "ev"
        rw [ap]
        rfl)
  rw [rngD_length, show 0 + (ps.length : Int).toNat = (kids (.inner lv lo hi ks ps)).length by omega, List.take_length] at e
  unfold b_below at e
  unfold fn_law_below g_law_below
  rw [enc_inner]
  walk_at "ev"
  rw [j_r1 (small_ok (by omega) (by omega))]
  walk_at "ev"
  rw [e]
  cases x3 <;> cases x4 <;> cases x5 <;> rfl
theorem fls_ints : ∀ ks : List Int, fls (ks.map D.int) = some (ks.map Fs.int)
  | [] => rfl
  | k :: ks => by
    show (fl (.int k)).bind _ = _
    rw [fls_ints ks]
    rfl
theorem lo_nin {lo : Option Int} {ks : List Int} (h : ∀ k ∈ ks, gtLo lo k) : dNin (bd lo) (tI ks) = some (.bl true) := by
  have key : ∀ f, fl (bd lo) = some f → f ∉ ks.map Fs.int := fun f hf hm => by
    obtain ⟨k, hk, rfl⟩ := List.mem_map.mp hm
    cases lo with
    | none => cases hf
    | some l =>
      have e : l = k := by
        have hf' := hf
        cases hf'
        rfl
      have := h k hk l rfl
      omega
  obtain ⟨f, hf⟩ : ∃ f, fl (bd lo) = some f := by cases lo <;> exact ⟨_, rfl⟩
  have e : inB (bd lo) (tI ks) = some false := by
    have e1 : inB (bd lo) (tI ks) = (fl (bd lo)).bind fun f => (fls (ks.map D.int)).bind fun fs => some (decide (f ∈ fs)) := by cases lo <;> rfl
    rw [e1, hf, fls_ints]
    show some (decide (f ∈ ks.map Fs.int)) = _
    rw [decide_eq_false (key f hf)]
  unfold dNin
  rw [e]
  rfl
theorem fits_ok {p : Int} {r : Rc} {lv : Int} (O : Ok r) (S : Sized p r) (l : live r) (hlv : lv = lvl r ∨ lv = -1) : fn_law_fits [.int p, enc r, bd (lo_ r), bd (hi_ r), .int lv] = some (.bl true) := by
  have m1 : ∀ i : Int, mulOk 2 i = true := fun i => by simp [mulOk]
  obtain ⟨b, hb⟩ : ∃ b, b = (!decide (p = 0)) := ⟨_, rfl⟩
  cases r with
  | free n => cases l
  | leaf lo hi ks vs =>
    have O : OkL lo hi ks vs := O
    have len := O.len
    have as := lasc_ok O.few O.asc O.cov
    have s1 : ks.length ≤ 4 := S.1
    have s2 : p = 0 ∨ 2 ≤ ks.length := S.2.imp (·.1) id
    have h1 : decide ((0 : Int) < lv) = false := decide_eq_false (by
      rcases hlv with h | h
      · rw [h, lvl_leaf]; omega
      · omega)
    have h2 : decide ((2 : Int) * (if b = true then 1 else 0) ≤ (ks.length : Int)) = true := decide_eq_true (by
      by_cases q : p = 0
      · rw [hb, decide_eq_true q]
        simp
      · rw [hb, decide_eq_false q]
        simp
        omega)
    have h3 : decide ((ks.length : Int) ≤ 4) = true := decide_eq_true (by omega)
    have h4 : decide ((vs.length : Int) = (ks.length : Int)) = true := decide_eq_true (by omega)
    have mm := d_mulP (m1 (if b = true then 1 else 0))
    unfold fn_law_fits g_law_fits
    rw [enc_leaf, lo_leaf, hi_leaf]
    clear O S s1 s2 hlv len
    walk_at "ev"
    rw [← hb, mm]
    walk_at "ev"
    rw [h1]
    walk_at "ev"
    rw [h2]
    walk_at "ev"
    rw [h3]
    walk_at "ev"
    rw [h4]
    walk_at "ev"
    rw [as]
    walk_at "ev"
  | inner lv' lo hi ks ps =>
    have O : OkI lv' lo hi ks ps := O
    have len := O.len
    have as := lasc_ok (lo := lo) (hi := hi) O.few O.asc fun k hk => ⟨fun x e => by have := (O.ins k hk).1 x e; omega, (O.ins k hk).2⟩
    have nin := lo_nin fun k hk => (O.ins k hk).1
    have lv1 := O.lv
    have s1 : ps.length ≤ 5 := by
      have := S.1
      unfold most at this
      rw [lvl_inner, if_neg (by omega)] at this
      exact this
    have s2 : 2 ≤ ps.length := by
      rcases S.2 with h | h
      · have h := h.2
        rw [lvl_inner] at h
        omega
      · exact h
    have h0 : decide (lv' < 1) = false := decide_eq_false (by omega)
    have h1 : (decide ((0 : Int) ≤ lv) = false) ∨ (decide ((0 : Int) ≤ lv) = true ∧ decide (lv' = lv) = true) := by
      rcases hlv with h | h
      · rw [lvl_inner] at h
        exact .inr ⟨decide_eq_true (by omega), decide_eq_true h.symm⟩
      · exact .inl (decide_eq_false (by omega))
    have h2 : decide ((2 : Int) ≤ (ps.length : Int)) = true := decide_eq_true (by omega)
    have h3 : decide ((ps.length : Int) ≤ 5) = true := decide_eq_true (by omega)
    have h4 : decide ((ks.length : Int) = (ps.length : Int) - 1) = true := decide_eq_true (by omega)
    have mm := d_mulP (m1 (if b = true then 1 else 0))
    unfold fn_law_fits g_law_fits
    rw [enc_inner, lo_inner, hi_inner]
    clear O S s1 s2 hlv len lv1
    rcases h1 with h1 | ⟨h1, h5⟩
    · walk_at "ev"
      rw [← hb, mm]
      walk_at "ev"
      rw [h0]
      walk_at "ev"
      rw [h1]
      walk_at "ev"
      rw [h2]
      walk_at "ev"
      rw [h3]
      walk_at "ev"
      rw [h4]
      walk_at "ev"
      rw [as]
      walk_at "ev"
      rw [nin]
      walk_at "ev"
    · walk_at "ev"
      rw [← hb, mm]
      walk_at "ev"
      rw [h0]
      walk_at "ev"
      rw [h1]
      walk_at "ev"
      rw [h5]
      walk_at "ev"
      rw [h2]
      walk_at "ev"
      rw [h3]
      walk_at "ev"
      rw [h4]
      walk_at "ev"
      rw [as]
      walk_at "ev"
      rw [nin]
      walk_at "ev"
end K32
end
section
set_option Elab.async false
set_option linter.all false
set_option maxRecDepth 100000
set_option maxHeartbeats 1000000
/-! the law's map -/
namespace K32
open PySem PySem.Spec PyProof.Rows L2
local macro_rules | `(tactic| walk_at "ev") => `(tactic| simp only [ev_f2, ev_f1, ev_fC, ev_v0, ev_vs, ev_c0, ev_c1, ev_c2, ev_cs, ev_call, ev_all0, ev_all1, ev_tup, ev_lst, ev_T, ev_andT, ev_orT, ev_notT, ev_and, ev_or, ev_not, ev_if, ev_seq, ev_nx, ev_bk, ev_no, ev_set, ev_M, ev_ret, ev_drop, ev_un, ev_ns1, ev_ns0, ev_sl, ev_o0, ev_o1, ev_neg, ev_ch, ev_fz0, ev_fz1, ev_fz2, ev_fz3, ev_fz4, ev_fz5, ev_st0, ev_sts, fn_0, fn_1, fn_2, fn_3, fn_4, fn_5,
  j_b1, j_b2, j_bL, j_cL, j_mD, j_bT, j_andT, j_andF, j_orF, j_orT, j_not, j_bl, j_aDT, j_aDF, j_oDF, j_oDT, j_ifT, j_ifF, j_seqN, j_seqR, j_seqB, j_set, j_pM, j_ret, j_drop, j_un, j_sl, j_some, j_chT, j_chF, j_chP, j_endR, j_endN, j_nones0, j_nonesS, ix0, ix1, ix2, ix3, ix4, ix5,
  d_lt, d_le, d_gt, d_ge, d_addI, d_sub, d_lenL, d_eqI, d_eqS, d_eqNI, d_eqIN, d_eqNN, d_neI, d_neS, d_neNI, d_neIN, d_neNN, d_isNN, d_isNI, d_isNB, d_isNT, d_isND, d_notNN, d_notNI, d_notNT, d_notND, d_slT, d_neg, d_tupT, d_tupL, d_listL, d_dict, d_intI, d_intB,
  List.length_cons, List.length_nil, Nat.reduceAdd, Nat.reduceSub, if_true, if_false, reduceIte, Bool.not_true, Bool.not_false, decide_true, decide_false, Bool.false_eq_true, tI_len, ev_for, ev_r1, ev_r2, ev_r3, ev_iT, ev_iL, ev_lc, ev_yes, j_for, j_iT, j_iTI, j_iL, isi_tup, isi_tI, isi_int, isi_ib, isi_non, dtup_tI, cut51, cut61, cut62, cut605, cut513, cut624, ixm5, ixm6, d_len2, d_len3, d_len4, d_len5, d_len6, s_ll, s_il, s_ii, s_fl, s_fi, s_li, s_ff, s_lf, s_if, eq_self, gs_0, gs_s, ev_app, ev_put, ev_pop, ev_ownL, ev_ownD, ev_ownC, ev_get2, j_ownL, j_ownC, j_b3, d_get, at_0, at_s, ev_putR, ev_putA, ev_fresh, ev_fld, ev_meth, ev_aM0, ev_aM1, ev_tupM, ev_make, j_fresh, j_fld, j_meth, j_mO, j_aM1, j_aM2, j_tM2, j_make, j_endMR, j_endMN, fnM_0, fnM_1, fnM_2, fnM_4, dr_fr, encS_def, eq_bds, ne_bds, Int.reduceLT, Int.reduceLE, Int.reduceEq, Int.reduceNeg])
local macro_rules | `(tactic| walk_at "evh") => `(tactic| simp only [*, ev_f2, ev_f1, ev_fC, ev_v0, ev_vs, ev_c0, ev_c1, ev_c2, ev_cs, ev_call, ev_all0, ev_all1, ev_tup, ev_lst, ev_T, ev_andT, ev_orT, ev_notT, ev_and, ev_or, ev_not, ev_if, ev_seq, ev_nx, ev_bk, ev_no, ev_set, ev_M, ev_ret, ev_drop, ev_un, ev_ns1, ev_ns0, ev_sl, ev_o0, ev_o1, ev_neg, ev_ch, ev_fz0, ev_fz1, ev_fz2, ev_fz3, ev_fz4, ev_fz5, ev_st0, ev_sts, fn_0, fn_1, fn_2, fn_3, fn_4, fn_5,
  j_b1, j_b2, j_bL, j_cL, j_mD, j_bT, j_andT, j_andF, j_orF, j_orT, j_not, j_bl, j_aDT, j_aDF, j_oDF, j_oDT, j_ifT, j_ifF, j_seqN, j_seqR, j_seqB, j_set, j_pM, j_ret, j_drop, j_un, j_sl, j_some, j_chT, j_chF, j_chP, j_endR, j_endN, j_nones0, j_nonesS, ix0, ix1, ix2, ix3, ix4, ix5,
  d_lt, d_le, d_gt, d_ge, d_addI, d_sub, d_lenL, d_eqI, d_eqS, d_eqNI, d_eqIN, d_eqNN, d_neI, d_neS, d_neNI, d_neIN, d_neNN, d_isNN, d_isNI, d_isNB, d_isNT, d_isND, d_notNN, d_notNI, d_notNT, d_notND, d_slT, d_neg, d_tupT, d_tupL, d_listL, d_dict, d_intI, d_intB,
  List.length_cons, List.length_nil, Nat.reduceAdd, Nat.reduceSub, if_true, if_false, reduceIte, Bool.not_true, Bool.not_false, decide_true, decide_false, Bool.false_eq_true, tI_len, ev_for, ev_r1, ev_r2, ev_r3, ev_iT, ev_iL, ev_lc, ev_yes, j_for, j_iT, j_iTI, j_iL, isi_tup, isi_tI, isi_int, isi_ib, isi_non, dtup_tI, cut51, cut61, cut62, cut605, cut513, cut624, ixm5, ixm6, d_len2, d_len3, d_len4, d_len5, d_len6, s_ll, s_il, s_ii, s_fl, s_fi, s_li, s_ff, s_lf, s_if, eq_self, gs_0, gs_s, ev_app, ev_put, ev_pop, ev_ownL, ev_ownD, ev_ownC, ev_get2, j_ownL, j_ownC, j_b3, d_get, at_0, at_s, ev_putR, ev_putA, ev_fresh, ev_fld, ev_meth, ev_aM0, ev_aM1, ev_tupM, ev_make, j_fresh, j_fld, j_meth, j_mO, j_aM1, j_aM2, j_tM2, j_make, j_endMR, j_endMN, fnM_0, fnM_1, fnM_2, fnM_4, dr_fr, encS_def, eq_bds, ne_bds, Int.reduceLT, Int.reduceLE, Int.reduceEq, Int.reduceNeg])

def encT (T : List (Int × Int)) : List (Int × D) := T.map fun e => (e.1, .int e.2)
def tput (T : List (Int × Int)) (k v : Int) : List (Int × Int) := if T.any (fun e => decide (e.1 = k)) then T.map (fun e => if e.1 = k then (k, v) else e) else T ++ [(k, v)]
theorem enc_tput {T : List (Int × Int)} {k v : Int} : dPut (encT T) k (.int v) = encT (tput T k v) := by
  unfold dPut tput
  have e1 : (encT T).any (fun e => decide (e.1 = k)) = T.any (fun e => decide (e.1 = k)) := by
    unfold encT
    rw [List.any_map]
    rfl
  rw [e1]
  split
  · unfold encT
    rw [List.map_map, List.map_map]
    apply List.map_congr_left
    intro e _
    show (if e.1 = k then _ else _) = _
    by_cases q : e.1 = k
    · rw [if_pos q]
      show _ = ((if e.1 = k then (k, v) else e : Int × Int).1, _)
      simp only [if_pos q]
    · rw [if_neg q]
      show _ = ((if e.1 = k then (k, v) else e : Int × Int).1, _)
      simp only [if_neg q]
  · unfold encT
    rw [List.map_append]
    rfl
theorem tput_keys {T : List (Int × Int)} {k v : Int} (nd : (T.map (·.1)).Nodup) : ((tput T k v).map (·.1)).Nodup := by
  unfold tput
  split
  · have : (T.map fun e => if e.1 = k then (k, v) else e).map (·.1) = T.map (·.1) := by
      rw [List.map_map]
      apply List.map_congr_left
      intro e _
      show (if e.1 = k then (k, v) else e : Int × Int).1 = e.1
      by_cases q : e.1 = k
      · rw [if_pos q, q]
      · rw [if_neg q]
    rw [this]
    exact nd
  · rename_i h
    rw [List.map_append, List.nodup_append]
    refine ⟨nd, by simp, fun a ha b hb => ?_⟩
    obtain ⟨e, he, rfl⟩ := List.mem_map.mp ha
    simp only [List.map_cons, List.map_nil, List.mem_singleton] at hb
    subst hb
    exact fun q => h (List.any_eq_true.mpr ⟨e, he, decide_eq_true q⟩)
theorem tput_mem {T : List (Int × Int)} {k v : Int} {x : Int × Int} : x ∈ tput T k v ↔ x = (k, v) ∨ (x ∈ T ∧ x.1 ≠ k) := by
  unfold tput
  split
  · rename_i h
    obtain ⟨y, hy, hq⟩ := List.any_eq_true.mp h
    have hq := of_decide_eq_true hq
    constructor
    · intro hx
      obtain ⟨e, he, rfl⟩ := List.mem_map.mp hx
      by_cases q : e.1 = k
      · rw [if_pos q]
        exact .inl rfl
      · rw [if_neg q]
        exact .inr ⟨he, q⟩
    · rintro (rfl | ⟨h1, h2⟩)
      · exact List.mem_map.mpr ⟨y, hy, if_pos hq⟩
      · exact List.mem_map.mpr ⟨x, h1, if_neg h2⟩
  · rename_i h
    rw [List.mem_append, List.mem_singleton]
    constructor
    · rintro (h1 | h1)
      · exact .inr ⟨h1, fun q => h (List.any_eq_true.mpr ⟨x, h1, decide_eq_true q⟩)⟩
      · exact .inl h1
    · rintro (h1 | ⟨h1, _⟩)
      · exact .inr h1
      · exact .inl h1
theorem key_eq {T : List (Int × Int)} (h : (T.map (·.1)).Nodup) {e e' : Int × Int} (h1 : e ∈ T) (h2 : e' ∈ T) (q : e.1 = e'.1) : e = e' := by
  induction T with
  | nil => cases h1
  | cons x P ih =>
    rw [List.map_cons, List.nodup_cons] at h
    rcases List.mem_cons.mp h1 with rfl | h3 <;> rcases List.mem_cons.mp h2 with rfl | h4
    · rfl
    · exact absurd (List.mem_map.mpr ⟨e', h4, q.symm⟩) h.1
    · exact absurd (List.mem_map.mpr ⟨e, h3, q⟩) h.1
    · exact ih h.2 h3 h4
structure MI (M T S : List (Int × Int)) : Prop where
  nd : (M.map (·.1)).Nodup
  sub : ∀ x ∈ M, x ∈ T
  all : ∀ x ∈ S, x ∈ M
theorem MI.put {M T S : List (Int × Int)} (h : MI M T S) (nd : (T.map (·.1)).Nodup) {k v : Int} (hx : (k, v) ∈ T) : MI (tput M k v) T (S ++ [(k, v)]) where
  nd := tput_keys h.nd
  sub := fun x hm => (tput_mem.mp hm).elim (fun e => e ▸ hx) fun q => h.sub x q.1
  all := fun x hm => by
    rcases List.mem_append.mp hm with hm | hm
    · have h1 := h.all x hm
      by_cases q : x.1 = k
      · exact tput_mem.mpr (.inl (key_eq nd (h.sub x h1) hx q))
      · exact tput_mem.mpr (.inr ⟨h1, q⟩)
    · exact tput_mem.mpr (.inl (List.mem_singleton.mp hm))
theorem MI.len {M T S : List (Int × Int)} (h : MI M T S) : M.length ≤ T.length := by
  have := sub_len (l' := T.map (·.1)) h.nd fun x hx => by
    obtain ⟨e, he, rfl⟩ := List.mem_map.mp hx
    exact List.mem_map.mpr ⟨e, h.sub e he, rfl⟩
  rwa [List.length_map, List.length_map] at this
def b_put : FS := (gPut 1 (f2 dIx (f2 dIx (fVar 9) (fC (.int 3))) (fVar 10)) (f2 dIx (f2 dIx (fVar 9) (fC (.int 4))) (fVar 10)))
theorem put_loop {T : List (Int × Int)} (nd : (T.map (·.1)).Nodup) (hT : T.length ≤ 1000) {M S : List (Int × Int)} (h : MI M T S) {lo hi : Option Int} {ks vs : List Int} (len : ks.length = vs.length) (hin : ∀ x ∈ ks.zip vs, x ∈ T) {a c d e f g u v w : D} {x10 x11 : Option Sl} {ds : List D} :
    ∃ M' y10, MI M' T (S ++ ks.zip vs) ∧ loopS (bName 10) b_put (rngD 0 1 ((ks.length : Int)).toNat) [some (.fz a), some (.od (encT M)), some (.fz c), some (.ol ds), some (.fz e), some (.fz f), some (.fz g), some (.fz u), some (.fz v), some (.fz (.tup [.str "leaf", bd lo, bd hi, tI ks, tI vs])), x10, x11] = some (.nx [some (.fz a), some (.od (encT M')), some (.fz c), some (.ol ds), some (.fz e), some (.fz f), some (.fz g), some (.fz u), some (.fz v), some (.fz (.tup [.str "leaf", bd lo, bd hi, tI ks, tI vs])), y10, x11]) := by
  obtain ⟨ρ', el, M', y10, rfl, hM⟩ := loop_inv (bi := bName 10) (body := b_put) (ds := rngD 0 1 ((ks.length : Int)).toNat)
    (fun t ρ => ∃ M' y10, ρ = [some (.fz a), some (.od (encT M')), some (.fz c), some (.ol ds), some (.fz e), some (.fz f), some (.fz g), some (.fz u), some (.fz v), some (.fz (.tup [.str "leaf", bd lo, bd hi, tI ks, tI vs])), y10, x11] ∧ MI M' T (S ++ (ks.zip vs).take t))
    (ρ := [some (.fz a), some (.od (encT M)), some (.fz c), some (.ol ds), some (.fz e), some (.fz f), some (.fz g), some (.fz u), some (.fz v), some (.fz (.tup [.str "leaf", bd lo, bd hi, tI ks, tI vs])), x10, x11]) 0 ⟨M, x10, rfl, by simpa using h⟩ (by
      rintro i d' ρ hd ⟨M', y10, rfl, hM⟩
      obtain ⟨hi', rfl⟩ := rngD_get hd
      have h1 : i < ks.length := by omega
      have e0 : 0 + (i : Int) * 1 = (i : Int) := by omega
      have k1 : dIx (tI ks) (.int (i : Int)) = some (.int ks[i]) := tI_ix (List.getElem?_eq_getElem h1)
      have k2 : dIx (tI vs) (.int (i : Int)) = some (.int (vs[i]'(by omega))) := tI_ix (List.getElem?_eq_getElem (by omega))
      have zg : (ks.zip vs)[i]? = some (ks[i], vs[i]'(by omega)) := by
        rw [List.getElem?_eq_getElem (by rw [List.length_zip]; omega), List.getElem_zip]
      have hz : (ks[i], vs[i]'(by omega)) ∈ ks.zip vs := List.mem_of_getElem? zg
      have hM2 := hM.put nd (hin _ hz)
      have hl := hM.len
      rw [e0]
      refine ⟨[some (.fz a), some (.od (encT M')), some (.fz c), some (.ol ds), some (.fz e), some (.fz f), some (.fz g), some (.fz u), some (.fz v), some (.fz (.tup [.str "leaf", bd lo, bd hi, tI ks, tI vs])), some (.fz (.int (i : Int))), x11], [some (.fz a), some (.od (encT (tput M' ks[i] (vs[i]'(by omega))))), some (.fz c), some (.ol ds), some (.fz e), some (.fz f), some (.fz g), some (.fz u), some (.fz v), some (.fz (.tup [.str "leaf", bd lo, bd hi, tI ks, tI vs])), some (.fz (.int (i : Int))), x11], rfl, ?_, _, _, rfl, ?_⟩
      · unfold b_put
        walk_at "ev"
        rw [k1, k2, j_put (by unfold encT; rw [List.length_map]; omega), enc_tput]
        rfl
      · rw [Nat.zero_add] at hM2 ⊢
        rw [List.take_add_one, zg, ← List.append_assoc]
        exact hM2)
  refine ⟨M', y10, ?_, el⟩
  rw [rngD_length, show 0 + (ks.length : Int).toNat = (ks.zip vs).length by rw [List.length_zip]; omega, List.take_length] at hM
  exact hM
/-! the next page -/
structure Bfs (P : List Pg) (dn un : List Pg) (pend : List Slot) : Prop where
  pm : P.Perm (dn ++ un)
  lv : ∀ e ∈ dn, live e.2.2
  rel : (dn = [] ∧ pend = [(0, none, none, -1)]) ∨ ((∃ e ∈ dn, e.1 = 0) ∧ ∀ s, pend.count s + (dn.flatMap fun e => off e.1 e.2.2).count s = (dn.flatMap fun e => kids e.2.2).count s)
theorem Bfs.next {P dn un : List Pg} {s : Slot} {rest : List Slot} (X : Exact P) (B : Bfs P dn un (s :: rest)) :
    ∃ e ∈ P, live e.2.2 ∧ s.1 = e.1 ∧ s.2.1 = lo_ e.2.2 ∧ s.2.2.1 = hi_ e.2.2 ∧ (s.2.2.2 = lvl e.2.2 ∨ s.2.2.2 = -1) ∧ (∀ x ∈ dn, x.1 ≠ e.1) ∧ ∃ un', Bfs P (dn ++ [e]) un' (rest ++ kids e.2.2) := by
  have fin : ∀ e ∈ P, live e.2.2 → (∀ x ∈ dn, x.1 ≠ e.1) → ((∃ x ∈ dn ++ [e], x.1 = 0) ∧ ∀ y, (rest ++ kids e.2.2).count y + ((dn ++ [e]).flatMap fun e => off e.1 e.2.2).count y = ((dn ++ [e]).flatMap fun e => kids e.2.2).count y) → ∃ un', Bfs P (dn ++ [e]) un' (rest ++ kids e.2.2) := fun e he hl hn hr => by
    have hu : e ∈ un := by
      rcases List.mem_append.mp (B.pm.subset he) with h | h
      · exact absurd rfl (hn e h)
      · exact h
    obtain ⟨u1, u2, rfl⟩ := List.append_of_mem hu
    refine ⟨u1 ++ u2, ?_, fun x hx => ?_, .inr hr⟩
    · refine B.pm.trans ?_
      rw [List.append_assoc]
      exact List.Perm.append_left _ (List.perm_middle.trans (by exact List.Perm.refl _))
    · rcases List.mem_append.mp hx with hx | hx
      · exact B.lv x hx
      · cases List.mem_singleton.mp hx
        exact hl
  rcases B.rel with ⟨rfl, h⟩ | ⟨h0, h⟩
  · injection h with h1 h2
    subst h1 h2
    obtain ⟨a, r, hr, q1, q2, q3⟩ := X.root
    refine ⟨_, hr, q1, rfl, q2.symm, q3.symm, .inr rfl, (fun x hx => by cases hx), fin _ hr q1 (fun x hx => by cases hx) ⟨⟨_, List.mem_cons_self, rfl⟩, fun y => ?_⟩⟩
    simp only [List.nil_append, List.flatMap_cons, List.flatMap_nil, List.append_nil, off_zero, List.count_nil]
    omega
  · have hk : s ∈ dn.flatMap fun e => kids e.2.2 := by
      have := h s
      rw [List.count_cons_self] at this
      exact List.count_pos_iff.mp (by omega)
    obtain ⟨x, hx, hs⟩ := List.mem_flatMap.mp hk
    obtain ⟨e, he, hse, z, hl⟩ := X.child (B.pm.symm.subset (List.mem_append_left _ hx)) hs
    have hoe : off e.1 e.2.2 = [s] := by rw [off_live z hl, hse]
    have hnd : ∀ x ∈ dn, x.1 ≠ e.1 := fun x hx q => by
      have hxe : x = e := nd_eq X.nd (B.pm.symm.subset (List.mem_append_left _ hx)) he q
      subst hxe
      have h1 := h s
      rw [List.count_cons_self] at h1
      have h2 : 1 ≤ (dn.flatMap fun e => off e.1 e.2.2).count s := List.count_pos_iff.mpr (List.mem_flatMap.mpr ⟨x, hx, by rw [hoe]; exact List.mem_singleton.mpr rfl⟩)
      have h3 : (dn.flatMap fun e => kids e.2.2).count s ≤ (P.flatMap fun e => kids e.2.2).count s := by
        rw [(B.pm.flatMap_right _).count_eq, List.flatMap_append, List.count_append]
        omega
      have h4 : (P.flatMap fun e => off e.1 e.2.2).count s ≤ 1 := by
        have hn : (P.flatMap fun e => off e.1 e.2.2).Nodup := nd_map (List.Sublist.nodup (off_sub P) X.nd)
        exact List.nodup_iff_count.mp hn s
      rw [X.bal] at h3
      omega
    refine ⟨e, he, hl, by rw [hse], by rw [hse], by rw [hse], .inl (by rw [hse]), hnd, fin e he hl hnd ⟨?_, fun y => ?_⟩⟩
    · obtain ⟨x, hx, q⟩ := h0
      exact ⟨x, List.mem_append_left _ hx, q⟩
    · have := h y
      rw [List.flatMap_append, List.flatMap_append, List.count_append, List.count_append, List.count_append]
      simp only [List.flatMap_cons, List.flatMap_nil, List.append_nil]
      rw [hoe]
      have e1 : (s :: rest).count y = rest.count y + [s].count y := by
        rw [List.count_cons, List.count_cons, List.count_nil]
        omega
      omega
theorem Bfs.done {P dn un : List Pg} (X : Exact P) (B : Bfs P dn un []) : ∀ e ∈ un, isF e.2.2 = true := by
  rcases B.rel with ⟨_, h⟩ | ⟨⟨r0, hr0, z0⟩, h⟩
  · cases h
  · intro e he
    cases hf : isF e.2.2 with
    | true => rfl
    | false =>
      obtain ⟨m, hm, hmax⟩ := max_of (l := un.filter fun e => !isF e.2.2) (fun e => lvl e.2.2) ⟨e, List.mem_filter.mpr ⟨he, by rw [hf]; rfl⟩⟩
      obtain ⟨hm1, hm2⟩ := List.mem_filter.mp hm
      have hml : isF m.2.2 = false := by simpa using hm2
      have hmP : m ∈ P := B.pm.symm.subset (List.mem_append_right _ hm1)
      have ndP : (dn ++ un).Nodup := B.pm.nodup_iff.mp (nd_map X.nd)
      have zm : m.1 ≠ 0 := fun q => by
        have hr0P : r0 ∈ P := B.pm.symm.subset (List.mem_append_left _ hr0)
        have := nd_eq X.nd hmP hr0P (q.trans z0.symm)
        subst this
        exact (List.nodup_append.mp ndP).2.2 _ hr0 _ hm1 rfl
      have hou : ∀ s, (un.flatMap fun e => kids e.2.2).count s = (un.flatMap fun e => off e.1 e.2.2).count s := fun s => by
        have h1 := X.bal s
        have h2 := h s
        rw [(B.pm.flatMap_right _).count_eq, (B.pm.flatMap_right _).count_eq, List.flatMap_append, List.flatMap_append, List.count_append, List.count_append] at h1
        rw [List.count_nil] at h2
        omega
      have hs : (m.1, lo_ m.2.2, hi_ m.2.2, lvl m.2.2) ∈ un.flatMap fun e => off e.1 e.2.2 := List.mem_flatMap.mpr ⟨m, hm1, by rw [off_live zm hml]; exact List.mem_singleton.mpr rfl⟩
      have hs2 : (m.1, lo_ m.2.2, hi_ m.2.2, lvl m.2.2) ∈ un.flatMap fun e => kids e.2.2 := List.count_pos_iff.mp (by rw [hou]; exact List.count_pos_iff.mpr hs)
      obtain ⟨v, hv, hk⟩ := List.mem_flatMap.mp hs2
      obtain ⟨q1, q2⟩ := kids_lv hk
      have hv2 : isF v.2.2 = false := q2
      have := hmax v (List.mem_filter.mpr ⟨hv, by rw [hv2]; rfl⟩)
      simp only at q1
      omega
end K32
end
section
set_option Elab.async false
set_option linter.all false
set_option maxRecDepth 100000
set_option maxHeartbeats 1000000
/-! the law's map, whole -/
namespace K32
open PySem PySem.Spec PyProof.Rows L2
local macro_rules | `(tactic| walk_at "ev") => `(tactic| simp only [ev_f2, ev_f1, ev_fC, ev_v0, ev_vs, ev_c0, ev_c1, ev_c2, ev_cs, ev_call, ev_all0, ev_all1, ev_tup, ev_lst, ev_T, ev_andT, ev_orT, ev_notT, ev_and, ev_or, ev_not, ev_if, ev_seq, ev_nx, ev_bk, ev_no, ev_set, ev_M, ev_ret, ev_drop, ev_un, ev_ns1, ev_ns0, ev_sl, ev_o0, ev_o1, ev_neg, ev_ch, ev_fz0, ev_fz1, ev_fz2, ev_fz3, ev_fz4, ev_fz5, ev_st0, ev_sts, fn_0, fn_1, fn_2, fn_3, fn_4, fn_5,
  j_b1, j_b2, j_bL, j_cL, j_mD, j_bT, j_andT, j_andF, j_orF, j_orT, j_not, j_bl, j_aDT, j_aDF, j_oDF, j_oDT, j_ifT, j_ifF, j_seqN, j_seqR, j_seqB, j_set, j_pM, j_ret, j_drop, j_un, j_sl, j_some, j_chT, j_chF, j_chP, j_endR, j_endN, j_nones0, j_nonesS, ix0, ix1, ix2, ix3, ix4, ix5,
  d_lt, d_le, d_gt, d_ge, d_addI, d_sub, d_lenL, d_eqI, d_eqS, d_eqNI, d_eqIN, d_eqNN, d_neI, d_neS, d_neNI, d_neIN, d_neNN, d_isNN, d_isNI, d_isNB, d_isNT, d_isND, d_notNN, d_notNI, d_notNT, d_notND, d_slT, d_neg, d_tupT, d_tupL, d_listL, d_dict, d_intI, d_intB,
  List.length_cons, List.length_nil, Nat.reduceAdd, Nat.reduceSub, if_true, if_false, reduceIte, Bool.not_true, Bool.not_false, decide_true, decide_false, Bool.false_eq_true, tI_len, ev_for, ev_r1, ev_r2, ev_r3, ev_iT, ev_iL, ev_lc, ev_yes, j_for, j_iT, j_iTI, j_iL, isi_tup, isi_tI, isi_int, isi_ib, isi_non, dtup_tI, cut51, cut61, cut62, cut605, cut513, cut624, ixm5, ixm6, d_len2, d_len3, d_len4, d_len5, d_len6, s_ll, s_il, s_ii, s_fl, s_fi, s_li, s_ff, s_lf, s_if, eq_self, gs_0, gs_s, ev_app, ev_put, ev_pop, ev_ownL, ev_ownD, ev_ownC, ev_get2, j_ownL, j_ownC, j_b3, d_get, at_0, at_s, ev_putR, ev_putA, ev_fresh, ev_fld, ev_meth, ev_aM0, ev_aM1, ev_tupM, ev_make, j_fresh, j_fld, j_meth, j_mO, j_aM1, j_aM2, j_tM2, j_make, j_endMR, j_endMN, fnM_0, fnM_1, fnM_2, fnM_4, dr_fr, encS_def, eq_bds, ne_bds, Int.reduceLT, Int.reduceLE, Int.reduceEq, Int.reduceNeg])
local macro_rules | `(tactic| walk_at "evh") => `(tactic| simp only [*, ev_f2, ev_f1, ev_fC, ev_v0, ev_vs, ev_c0, ev_c1, ev_c2, ev_cs, ev_call, ev_all0, ev_all1, ev_tup, ev_lst, ev_T, ev_andT, ev_orT, ev_notT, ev_and, ev_or, ev_not, ev_if, ev_seq, ev_nx, ev_bk, ev_no, ev_set, ev_M, ev_ret, ev_drop, ev_un, ev_ns1, ev_ns0, ev_sl, ev_o0, ev_o1, ev_neg, ev_ch, ev_fz0, ev_fz1, ev_fz2, ev_fz3, ev_fz4, ev_fz5, ev_st0, ev_sts, fn_0, fn_1, fn_2, fn_3, fn_4, fn_5,
  j_b1, j_b2, j_bL, j_cL, j_mD, j_bT, j_andT, j_andF, j_orF, j_orT, j_not, j_bl, j_aDT, j_aDF, j_oDF, j_oDT, j_ifT, j_ifF, j_seqN, j_seqR, j_seqB, j_set, j_pM, j_ret, j_drop, j_un, j_sl, j_some, j_chT, j_chF, j_chP, j_endR, j_endN, j_nones0, j_nonesS, ix0, ix1, ix2, ix3, ix4, ix5,
  d_lt, d_le, d_gt, d_ge, d_addI, d_sub, d_lenL, d_eqI, d_eqS, d_eqNI, d_eqIN, d_eqNN, d_neI, d_neS, d_neNI, d_neIN, d_neNN, d_isNN, d_isNI, d_isNB, d_isNT, d_isND, d_notNN, d_notNI, d_notNT, d_notND, d_slT, d_neg, d_tupT, d_tupL, d_listL, d_dict, d_intI, d_intB,
  List.length_cons, List.length_nil, Nat.reduceAdd, Nat.reduceSub, if_true, if_false, reduceIte, Bool.not_true, Bool.not_false, decide_true, decide_false, Bool.false_eq_true, tI_len, ev_for, ev_r1, ev_r2, ev_r3, ev_iT, ev_iL, ev_lc, ev_yes, j_for, j_iT, j_iTI, j_iL, isi_tup, isi_tI, isi_int, isi_ib, isi_non, dtup_tI, cut51, cut61, cut62, cut605, cut513, cut624, ixm5, ixm6, d_len2, d_len3, d_len4, d_len5, d_len6, s_ll, s_il, s_ii, s_fl, s_fi, s_li, s_ff, s_lf, s_if, eq_self, gs_0, gs_s, ev_app, ev_put, ev_pop, ev_ownL, ev_ownD, ev_ownC, ev_get2, j_ownL, j_ownC, j_b3, d_get, at_0, at_s, ev_putR, ev_putA, ev_fresh, ev_fld, ev_meth, ev_aM0, ev_aM1, ev_tupM, ev_make, j_fresh, j_fld, j_meth, j_mO, j_aM1, j_aM2, j_tM2, j_make, j_endMR, j_endMN, fnM_0, fnM_1, fnM_2, fnM_4, dr_fr, encS_def, eq_bds, ne_bds, Int.reduceLT, Int.reduceLE, Int.reduceEq, Int.reduceNeg])

def b_map : FS := (gIf (fT (f2 dLt (fVar 4) (f1 dLen (fVar 2)))) (gSeq (gUn [5, 6, 7, 8] (fM (f2 dIx (fVar 2) (fVar 4))))
  (gSeq (gIf (fOrT (fT (f2 dIn (fVar 5) (fVarC 3))) (fT (f2 dNin (fVar 5) (fVar 0)))) (gRet (fM (fC .non))) gNx)
  (gSeq (gApp 3 (fVar 5))
  (gSeq (gSet 9 (fM (f2 dIx (f2 dIx (fVar 0) (fVar 5)) (fC (.int 1)))))
  (gSeq (gIf (fNotT (fT (fCall fn_law_fits [(fVar 5), (fVar 9), (fVar 6), (fVar 7), (fVar 8)]))) (gRet (fM (fC .non))) gNx)
  (gIf (fT (f2 dEq (f2 dIx (fVar 9) (fC (.int 0))) (fC (.str "leaf")))) (gFor (iR1 (f1 dLen (f2 dIx (fVar 9) (fC (.int 3))))) (bName 10) (gPut 1 (f2 dIx (f2 dIx (fVar 9) (fC (.int 3))) (fVar 10)) (f2 dIx (f2 dIx (fVar 9) (fC (.int 4))) (fVar 10)))) (gSet 2 (fM (f2 dAdd (fVar 2) (fCall fn_law_below [(fVar 9), (f2 dIx (fVar 9) (fC (.int 1)))])))))))))) gNx)
theorem seen_no {l : List Int} {p : Int} (h : p ∉ l) : dIn (.int p) (.lst (l.map D.int)) = some (.bl false) := by
  show (inB (.int p) (.lst (l.map D.int))).map D.bl = _
  have e : inB (.int p) (.lst (l.map D.int)) = some false := by
    show (fl (.int p)).bind (fun f => (fls (l.map D.int)).bind fun fs => some (decide (f ∈ fs))) = _
    rw [fls_ints]
    show some (decide (Fs.int p ∈ l.map Fs.int)) = _
    rw [decide_eq_false]
    intro hm
    obtain ⟨k, hk, e⟩ := List.mem_map.mp hm
    cases e
    exact h hk
  rw [e]
  rfl
theorem tag_of (r : Rc) : ∃ tag, dIx (enc r) (.int 0) = some (.str tag) ∧ dNe (.str tag) (.str "free") = some (.bl (!isF r)) := by
  cases r with
  | leaf =>
    refine ⟨"leaf", ix0, ?_⟩
    rw [d_neS, s_lf]
    rfl
  | inner =>
    refine ⟨"inner", ix0, ?_⟩
    rw [d_neS, s_if]
    rfl
  | free =>
    refine ⟨"free", ix0, ?_⟩
    rw [d_neS, s_ff]
    rfl
theorem flats_ints : ∀ l : List Int, ∃ fs, flats (l.map D.int) = some fs
  | [] => ⟨_, rfl⟩
  | k :: l => by
    obtain ⟨fs, e⟩ := flats_ints l
    rw [List.map_cons]
    unfold flats
    rw [e]
    exact ⟨_, rfl⟩
theorem ne_same (l : List Int) : dNe (.lst (l.map D.int)) (.lst (l.map D.int)) = some (.bl false) := by
  obtain ⟨fs, e⟩ := flats_ints l
  show (eqB (.lst (l.map D.int)) (.lst (l.map D.int))).map _ = _
  have : eqB (.lst (l.map D.int)) (.lst (l.map D.int)) = some true := by
    show (flats _).bind (fun fa => (flats _).bind fun fc => some (decide (fa = fc))) = _
    rw [e]
    show some (decide (fs = fs)) = _
    rw [decide_eq_true rfl]
  rw [this]
  rfl
theorem ins_sorted (x : Int) : ∀ {l : List Int}, l.Pairwise (· ≤ ·) → (insI x l).Pairwise (· ≤ ·)
  | [], _ => by simp [insI]
  | y :: l, h => by
    obtain ⟨h1, h2⟩ := List.pairwise_cons.mp h
    unfold insI
    split
    · rename_i q
      refine List.pairwise_cons.mpr ⟨fun z hz => ?_, h⟩
      rcases List.mem_cons.mp hz with rfl | hz
      · exact q
      · have := h1 z hz
        omega
    · rename_i q
      refine List.pairwise_cons.mpr ⟨fun z hz => ?_, ins_sorted x h2⟩
      rcases List.mem_cons.mp ((ins_perm x l).subset hz) with rfl | hz
      · omega
      · exact h1 z hz
theorem sort_sorted : ∀ l : List Int, (sortI l).Pairwise (· ≤ ·)
  | [] => List.Pairwise.nil
  | x :: l => ins_sorted x (sort_sorted l)
theorem sorted_eq : ∀ {l l' : List Int}, l.Perm l' → l.Pairwise (· ≤ ·) → l'.Pairwise (· ≤ ·) → l = l'
  | [], l', h, _, _ => h.symm.eq_nil.symm ▸ rfl
  | x :: l, [], h, _, _ => by have := h.eq_nil; cases this
  | x :: l, y :: l', h, s, s' => by
    obtain ⟨a1, a2⟩ := List.pairwise_cons.mp s
    obtain ⟨b1, b2⟩ := List.pairwise_cons.mp s'
    have e : x = y := by
      have h1 : x ∈ y :: l' := h.subset List.mem_cons_self
      have h2 : y ∈ x :: l := h.symm.subset List.mem_cons_self
      have h3 : y ≤ x := by
        rcases List.mem_cons.mp h1 with e | h1
        · omega
        · exact b1 x h1
      have h4 : x ≤ y := by
        rcases List.mem_cons.mp h2 with e | h2
        · omega
        · exact a1 y h2
      omega
    subst e
    rw [sorted_eq h.cons_inv a2 b2]
theorem sort_eq {l l' : List Int} (h : l.Perm l') : sortI l = sortI l' := sorted_eq ((sort_perm l).trans (h.trans (sort_perm l').symm)) (sort_sorted l) (sort_sorted l')
theorem map_ok {P : List Pg} (X : Exact P) {T : List (Int × Int)} (ndT : (T.map (·.1)).Nodup) (hT : T.length ≤ 1000) (hits : ∀ e ∈ P, ∀ x ∈ its e.2.2, x ∈ T) (hall : ∀ x ∈ T, ∃ e ∈ P, x ∈ its e.2.2) :
    ∃ M, fn_law_map [.dic (encP P)] = some (.dic (encT M)) ∧ MI M T T := by
  have plen := X.len
  obtain ⟨ρ', el, dn, un, pend, dsl, M, x4, x5, x6, x7, x8, x9, x10, rfl, B, hlen, hMI, hcase⟩ := loop_inv (bi := bName 4) (body := b_map) (ds := rngD 0 1 400)
    (fun t ρ => ∃ (dn un : List Pg) (pend dsl : List Slot) (M : List (Int × Int)) (x4 x5 x6 x7 x8 x9 x10 : Option Sl), ρ = [some (.fz (.dic (encP P))), some (.od (encT M)), some (.fz (.lst ((dsl ++ pend).map encSl))), some (.ol ((dn.map (·.1)).map D.int)), x4, x5, x6, x7, x8, x9, x10, none] ∧
      Bfs P dn un pend ∧ dsl.length = dn.length ∧ MI M T (dn.flatMap fun e => its e.2.2) ∧ (dn.length = t ∨ (pend = [] ∧ dn.length ≤ t)))
    (ρ := [some (.fz (.dic (encP P))), some (.od []), some (.fz (.lst [encSl (0, none, none, -1)])), some (.ol []), none, none, none, none, none, none, none, none]) 0
    ⟨[], P, [(0, none, none, -1)], [], [], none, none, none, none, none, none, none, rfl, ⟨.refl _, fun e h => (by cases h), .inl ⟨rfl, rfl⟩⟩, rfl, ⟨List.nodup_nil, fun x h => (by cases h), fun x h => (by cases h)⟩, .inl rfl⟩ (by
      rintro t d ρ hd ⟨dn, un, pend, dsl, M, x4, x5, x6, x7, x8, x9, x10, rfl, B, hlen, hMI, hcase⟩
      obtain ⟨hin, rfl⟩ := rngD_get hd
      rw [Nat.zero_add] at hcase
      have e0 : 0 + (t : Int) * 1 = (t : Int) := by omega
      rw [e0]
      have hML := hMI.len
      have hdn : dn.length ≤ 200 := by
        have := B.pm.length_eq
        rw [List.length_append] at this
        omega
      cases pend with
      | nil =>
        have hle : dn.length ≤ t := by rcases hcase with h | h <;> omega
        have hb : decide ((t : Int) < ((((dsl ++ []).map encSl).length : Nat) : Int)) = false := decide_eq_false (by rw [List.length_map, List.append_nil, hlen]; omega)
        refine ⟨[some (.fz (.dic (encP P))), some (.od (encT M)), some (.fz (.lst ((dsl ++ []).map encSl))), some (.ol ((dn.map (·.1)).map D.int)), some (.fz (.int (t : Int))), x5, x6, x7, x8, x9, x10, none], _, rfl, ?_, dn, un, [], dsl, M, some (.fz (.int (t : Int))), x5, x6, x7, x8, x9, x10, rfl, B, hlen, hMI, .inr ⟨rfl, by omega⟩⟩
        unfold b_map
        walk_at "ev"
        rw [hb]
        walk_at "ev"
      | cons s rest =>
        have ht : dn.length = t := by
          rcases hcase with h | h
          · exact h
          · cases h.1
        obtain ⟨e, he, hl, s1, s2, s3, s4, hnd, un', B'⟩ := B.next X
        obtain ⟨O, S⟩ := X.ok e he hl
        have hb : decide ((t : Int) < ((((dsl ++ s :: rest).map encSl).length : Nat) : Int)) = true := decide_eq_true (by rw [List.length_map, List.length_append, List.length_cons, hlen]; omega)
        have hix : dIx (.lst ((dsl ++ s :: rest).map encSl)) (.int (t : Int)) = some (.tup [.int s.1, bd s.2.1, bd s.2.2.1, .int s.2.2.2]) := by
          show atI _ (t : Int) = _
          refine atI_nat ?_
          rw [List.map_append, List.getElem?_append_right (by rw [List.length_map]; omega), List.length_map, show t - dsl.length = 0 by omega]
          rfl
        have hseen := seen_no (l := dn.map (·.1)) (p := s.1) fun h => by
          obtain ⟨x, hx, q⟩ := List.mem_map.mp h
          exact hnd x hx (q.trans s1)
        have hlk : dLook (encP P) s.1 = some (.tup [.int e.2.1, enc e.2.2]) := by rw [s1]; exact lookP X.nd he
        have hpg : dNin (.int s.1) (.dic (encP P)) = some (.bl false) := by
          show (some (dLook (encP P) s.1).isSome).map (fun k => D.bl (!k)) = _
          rw [hlk]
          rfl
        have hrec : dIx (.dic (encP P)) (.int s.1) = some (.tup [.int e.2.1, enc e.2.2]) := hlk
        have fits := fits_ok O S hl s4
        rw [← s1, ← s2, ← s3] at fits
        have ap : ∀ ρ : En, appO (some (some (.ol ((dn.map (·.1)).map D.int)))) (some (.int s.1)) 3 ρ = some (.nx (ρ.set 3 (some (.ol (((dn ++ [e]).map (·.1)).map D.int))))) := fun ρ => by
          rw [j_app (by rw [List.length_map, List.length_map]; omega), s1, List.map_append, List.map_append]
          rfl
        have hd' : (dsl ++ [s]).length = (dn ++ [e]).length := by simp [hlen]
        have hassoc : ∀ l : List Slot, (dsl ++ s :: rest) ++ l = (dsl ++ [s]) ++ (rest ++ l) := fun l => by simp
        cases hr : e.2.2 with
        | free n =>
          rw [hr] at hl
          cases hl
        | leaf lo hi ks vs =>
          have O : OkL lo hi ks vs := by rw [hr] at O; exact O
          have few := O.few
          have hin2 : ∀ x ∈ ks.zip vs, x ∈ T := fun x hx => hits e he x (by rw [hr]; exact hx)
          obtain ⟨M', y10, hM', pl⟩ := put_loop ndT hT hMI (lo := lo) (hi := hi) O.len hin2 (a := .dic (encP P)) (c := .lst ((dsl ++ s :: rest).map encSl)) (e := .int (t : Int)) (f := .int s.1) (g := bd s.2.1) (u := bd s.2.2.1) (v := .int s.2.2.2) (d := .non) (w := .non) (x10 := x10) (x11 := none) (ds := ((dn ++ [e]).map (·.1)).map D.int)
          rw [hr, enc_leaf] at fits
          rw [hr, enc_leaf] at hrec
          have hk0 : kids e.2.2 = [] := by rw [hr]; rfl
          rw [hk0, List.append_nil] at B'
          refine ⟨[some (.fz (.dic (encP P))), some (.od (encT M)), some (.fz (.lst ((dsl ++ s :: rest).map encSl))), some (.ol ((dn.map (·.1)).map D.int)), some (.fz (.int (t : Int))), x5, x6, x7, x8, x9, x10, none], _, rfl, ?_, dn ++ [e], un', rest, dsl ++ [s], M', some (.fz (.int (t : Int))), some (.fz (.int s.1)), some (.fz (bd s.2.1)), some (.fz (bd s.2.2.1)), some (.fz (.int s.2.2.2)), some (.fz (.tup [.str "leaf", bd lo, bd hi, tI ks, tI vs])), y10, rfl, B', hd', ?_, .inl (by simp; omega)⟩
          · rw [show (dsl ++ [s]) ++ rest = dsl ++ s :: rest by simp]
            unfold b_map
            unfold b_put at pl
            walk_at "ev"
            rw [hb]
            walk_at "ev"
            rw [hix]
            walk_at "ev"
            rw [hseen]
            walk_at "ev"
            rw [hpg]
            walk_at "ev"
            rw [ap]
            walk_at "ev"
            rw [hrec]
            walk_at "ev"
            rw [fits]
            walk_at "ev"
            rw [j_r1 (small_ok (by omega) (by omega))]
            walk_at "ev"
            exact pl
          · rw [List.flatMap_append]
            simp only [List.flatMap_cons, List.flatMap_nil, List.append_nil]
            rw [hr]
            exact hM'
        | inner lv lo hi ks ps =>
          have O : OkI lv lo hi ks ps := by rw [hr] at O; exact O
          have bl := below_ok O
          have kl : (kids (.inner lv lo hi ks ps)).length = ps.length := kidsF_len O.len
          have len := O.len
          have few := O.few
          rw [hr, enc_inner] at fits
          rw [hr, enc_inner] at hrec
          rw [enc_inner] at bl
          rw [hr] at B'
          have hplen : (dsl ++ s :: rest).length ≤ 3000 := by
            -- the slots still due are children of pages seen
            have h1 : (s :: rest).length ≤ 2000 := by
              rcases B.rel with ⟨_, h⟩ | ⟨_, h⟩
              · rw [h]; simp
              · have hsub : (s :: rest).length ≤ (P.map (·.1)).length := by
                  have h2 : ((s :: rest).map (·.1)).Nodup := by
                    have h3 : (((s :: rest) ++ dn.flatMap fun e => off e.1 e.2.2)).Perm (dn.flatMap fun e => kids e.2.2) := List.perm_iff_count.mpr fun y => by
                      rw [List.count_append]
                      exact h y
                    have h4 : ((dn.flatMap fun e => kids e.2.2).map (·.1)).Nodup := by
                      have h5 := X.kidsNd
                      rw [((B.pm.flatMap_right _).map _).nodup_iff, List.flatMap_append, List.map_append] at h5
                      exact (List.nodup_append.mp h5).1
                    have h6 := (h3.map (·.1)).nodup_iff.mpr h4
                    rw [List.map_append] at h6
                    exact (List.nodup_append.mp h6).1
                  have := sub_len (l' := P.map (·.1)) h2 fun x hx => by
                    obtain ⟨y, hy, rfl⟩ := List.mem_map.mp hx
                    have hk : y ∈ dn.flatMap fun e => kids e.2.2 := by
                      have := h y
                      have h7 : 0 < (s :: rest).count y := List.count_pos_iff.mpr hy
                      exact List.count_pos_iff.mp (by omega)
                    obtain ⟨z, hz, hs⟩ := List.mem_flatMap.mp hk
                    obtain ⟨e', he', hse, _⟩ := X.child (B.pm.symm.subset (List.mem_append_left _ hz)) hs
                    exact List.mem_map.mpr ⟨e', he', by rw [hse]⟩
                  rw [List.length_map] at this
                  exact this
                rw [List.length_map] at hsub
                omega
            rw [List.length_append, hlen]
            omega
          have ad : dAdd (.lst ((dsl ++ s :: rest).map encSl)) (.lst ((kids (.inner lv lo hi ks ps)).map encSl)) = some (.lst (((dsl ++ [s]) ++ (rest ++ kids (.inner lv lo hi ks ps))).map encSl)) := by
            rw [d_catL (by rw [List.length_map, List.length_map, kl]; omega), ← List.map_append, hassoc]
          refine ⟨[some (.fz (.dic (encP P))), some (.od (encT M)), some (.fz (.lst ((dsl ++ s :: rest).map encSl))), some (.ol ((dn.map (·.1)).map D.int)), some (.fz (.int (t : Int))), x5, x6, x7, x8, x9, x10, none], _, rfl, ?_, dn ++ [e], un', rest ++ kids (.inner lv lo hi ks ps), dsl ++ [s], M, some (.fz (.int (t : Int))), some (.fz (.int s.1)), some (.fz (bd s.2.1)), some (.fz (bd s.2.2.1)), some (.fz (.int s.2.2.2)), some (.fz (.tup [.str "inner", .int lv, bd lo, bd hi, tI ks, tI ps])), x10, rfl, B', hd', ?_, .inl (by simp; omega)⟩
          · unfold b_map
            walk_at "ev"
            rw [hb]
            walk_at "ev"
            rw [hix]
            walk_at "ev"
            rw [hseen]
            walk_at "ev"
            rw [hpg]
            walk_at "ev"
            rw [ap]
            walk_at "ev"
            rw [hrec]
            walk_at "ev"
            rw [fits]
            walk_at "ev"
            rw [bl]
            walk_at "ev"
            rw [ad]
            walk_at "ev"
          · rw [List.flatMap_append]
            simp only [List.flatMap_cons, List.flatMap_nil, List.append_nil]
            rw [hr]
            show MI M T ((dn.flatMap fun e => its e.2.2) ++ [])
            rw [List.append_nil]
            exact hMI)
  rw [rngD_length] at hcase
  have hdn : dn.length ≤ 200 := by
    have := B.pm.length_eq
    rw [List.length_append] at this
    omega
  obtain rfl : pend = [] := by
    rcases hcase with h | h
    · omega
    · exact h.1
  have hun := B.done X
  have hlive : ((P.filter fun e => !isF e.2.2).map (·.1)).Perm (dn.map (·.1)) := by
    have h1 := B.pm.filter (fun e : Pg => !isF e.2.2)
    have f1 : dn.filter (fun e : Pg => !isF e.2.2) = dn := List.filter_eq_self.mpr fun e he => by
      rw [show isF e.2.2 = false from B.lv e he]
      rfl
    have f2 : un.filter (fun e : Pg => !isF e.2.2) = [] := List.filter_eq_nil_iff.mpr fun e he => by
      rw [hun e he]
      decide
    rw [List.filter_append, f1, f2, List.append_nil] at h1
    exact h1.map _
  have hMT : MI M T T := ⟨hMI.nd, hMI.sub, fun x hx => by
    obtain ⟨e, he, hi⟩ := hall x hx
    refine hMI.all x (List.mem_flatMap.mpr ⟨e, ?_, hi⟩)
    rcases List.mem_append.mp (B.pm.subset he) with h | h
    · exact h
    · have hf := hun e h
      cases hr : e.2.2 with
      | free n => rw [hr] at hi; cases hi
      | leaf => rw [hr] at hf; cases hf
      | inner => rw [hr] at hf; cases hf⟩
  refine ⟨M, ?_, hMT⟩
  have hliveD : ∀ x4 x5 x6 x7 x8 x9 x10 : Option Sl, fLcK (fdVar 0) (some 0) (fT (f2 dNe (f2 dIx (f2 dIx (f2 dIx (fVar 0) (fVar 5)) (fC (.int 1))) (fC (.int 0))) (fC (.str "free")))) (fVar 5) 5 [some (.fz (.dic (encP P))), some (.od (encT M)), some (.fz (.lst ((dsl ++ []).map encSl))), some (.ol ((dn.map (·.1)).map D.int)), x4, x5, x6, x7, x8, x9, x10, none] = some (.lst (((P.filter fun e => !isF e.2.2).map (·.1)).map D.int)) := fun x4 x5 x6 x7 x8 x9 x10 => by
    unfold fLcK
    show (if (encP P).length ≤ 100000 then (compD _ (fVar 5) 5 (lockE (some 0) _) (keysD (encP P))).bind _ else none) = _
    rw [if_pos (by rw [encP_len]; omega)]
    obtain ⟨z1, z2, z3, z4, z5, z6, z7, z8, z9, z10, z11, hz⟩ : ∃ z1 z2 z3 z4 z5 z6 z7 z8 z9 z10 z11, lockE (some 0) [some (.fz (.dic (encP P))), some (.od (encT M)), some (.fz (.lst ((dsl ++ []).map encSl))), some (.ol ((dn.map (·.1)).map D.int)), x4, x5, x6, x7, x8, x9, x10, none] = [some (.fz (.dic (encP P))), z1, z2, z3, z4, z5, z6, z7, z8, z9, z10, z11] := ⟨_, _, _, _, _, _, _, _, _, _, _, rfl⟩
    rw [hz]
    have ek : keysD (encP P) = P.map fun e => D.int e.1 := by
      unfold keysD encP
      rw [List.map_map]
      rfl
    rw [ek, comp_map (fun e : Pg => D.int e.1) (fun e => D.int e.1) (fun e => !isF e.2.2) fun e he => ⟨by
      have hix : dIx (.dic (encP P)) (.int e.1) = some (.tup [.int e.2.1, enc e.2.2]) := lookP X.nd he
      obtain ⟨tag, tg, tn⟩ := tag_of e.2.2
      walk_at "ev"
      rw [hix]
      walk_at "ev"
      rw [tg]
      simp only [j_b2, tn]
      rfl, fun _ => rfl⟩]
    show (intsD ((P.filter fun e => !isF e.2.2).map fun e => D.int e.1)).map _ = _
    rw [show ((P.filter fun e => !isF e.2.2).map fun e => D.int e.1) = ((P.filter fun e => !isF e.2.2).map (·.1)).map D.int by rw [List.map_map]; rfl, intsD_map]
    rfl
  have so1 : dSorted (.lst ((dn.map (·.1)).map D.int)) = some (.lst ((sortI (dn.map (·.1))).map D.int)) := by
    show (intsD _).map _ = _
    rw [intsD_map]
    rfl
  have so2 : dSorted (.lst (((P.filter fun e => !isF e.2.2).map (·.1)).map D.int)) = some (.lst ((sortI (dn.map (·.1))).map D.int)) := by
    show (intsD _).map _ = _
    rw [intsD_map]
    show some (D.lst ((sortI _).map D.int)) = _
    rw [sort_eq hlive]
  have nes := ne_same (sortI (dn.map (·.1)))
  unfold b_map at el
  unfold fn_law_map g_law_map
  walk_at "ev"
  have e1 : D.tup [.int 0, .non, .non, .int (-1)] = encSl (0, none, none, -1) := rfl
  rw [j_r1 (by decide), e1, show (400 : Int).toNat = 400 from rfl]
  walk_at "ev"
  rw [el]
  walk_at "ev"
  rw [hliveD]
  walk_at "ev"
  rw [so1, so2]
  simp only [j_b2, nes]
  walk_at "ev"
  try cases x4 <;> cases x5 <;> cases x6 <;> cases x7 <;> cases x8 <;> cases x9 <;> cases x10 <;> rfl
end K32
end
section
set_option Elab.async false
set_option linter.all false
set_option maxRecDepth 100000
set_option maxHeartbeats 1000000
/-! tree and table agree -/
namespace K32
open PySem PySem.Spec PyProof.Rows L2
local macro_rules | `(tactic| walk_at "ev") => `(tactic| simp only [ev_f2, ev_f1, ev_fC, ev_v0, ev_vs, ev_c0, ev_c1, ev_c2, ev_cs, ev_call, ev_all0, ev_all1, ev_tup, ev_lst, ev_T, ev_andT, ev_orT, ev_notT, ev_and, ev_or, ev_not, ev_if, ev_seq, ev_nx, ev_bk, ev_no, ev_set, ev_M, ev_ret, ev_drop, ev_un, ev_ns1, ev_ns0, ev_sl, ev_o0, ev_o1, ev_neg, ev_ch, ev_fz0, ev_fz1, ev_fz2, ev_fz3, ev_fz4, ev_fz5, ev_st0, ev_sts, fn_0, fn_1, fn_2, fn_3, fn_4, fn_5,
  j_b1, j_b2, j_bL, j_cL, j_mD, j_bT, j_andT, j_andF, j_orF, j_orT, j_not, j_bl, j_aDT, j_aDF, j_oDF, j_oDT, j_ifT, j_ifF, j_seqN, j_seqR, j_seqB, j_set, j_pM, j_ret, j_drop, j_un, j_sl, j_some, j_chT, j_chF, j_chP, j_endR, j_endN, j_nones0, j_nonesS, ix0, ix1, ix2, ix3, ix4, ix5,
  d_lt, d_le, d_gt, d_ge, d_addI, d_sub, d_lenL, d_eqI, d_eqS, d_eqNI, d_eqIN, d_eqNN, d_neI, d_neS, d_neNI, d_neIN, d_neNN, d_isNN, d_isNI, d_isNB, d_isNT, d_isND, d_notNN, d_notNI, d_notNT, d_notND, d_slT, d_neg, d_tupT, d_tupL, d_listL, d_dict, d_intI, d_intB,
  List.length_cons, List.length_nil, Nat.reduceAdd, Nat.reduceSub, if_true, if_false, reduceIte, Bool.not_true, Bool.not_false, decide_true, decide_false, Bool.false_eq_true, tI_len, ev_for, ev_r1, ev_r2, ev_r3, ev_iT, ev_iL, ev_lc, ev_yes, j_for, j_iT, j_iTI, j_iL, isi_tup, isi_tI, isi_int, isi_ib, isi_non, dtup_tI, cut51, cut61, cut62, cut605, cut513, cut624, ixm5, ixm6, d_len2, d_len3, d_len4, d_len5, d_len6, s_ll, s_il, s_ii, s_fl, s_fi, s_li, s_ff, s_lf, s_if, eq_self, gs_0, gs_s, ev_app, ev_put, ev_pop, ev_ownL, ev_ownD, ev_ownC, ev_get2, j_ownL, j_ownC, j_b3, d_get, at_0, at_s, ev_putR, ev_putA, ev_fresh, ev_fld, ev_meth, ev_aM0, ev_aM1, ev_tupM, ev_make, j_fresh, j_fld, j_meth, j_mO, j_aM1, j_aM2, j_tM2, j_make, j_endMR, j_endMN, fnM_0, fnM_1, fnM_2, fnM_4, dr_fr, encS_def, eq_bds, ne_bds, Int.reduceLT, Int.reduceLE, Int.reduceEq, Int.reduceNeg])
local macro_rules | `(tactic| walk_at "evh") => `(tactic| simp only [*, ev_f2, ev_f1, ev_fC, ev_v0, ev_vs, ev_c0, ev_c1, ev_c2, ev_cs, ev_call, ev_all0, ev_all1, ev_tup, ev_lst, ev_T, ev_andT, ev_orT, ev_notT, ev_and, ev_or, ev_not, ev_if, ev_seq, ev_nx, ev_bk, ev_no, ev_set, ev_M, ev_ret, ev_drop, ev_un, ev_ns1, ev_ns0, ev_sl, ev_o0, ev_o1, ev_neg, ev_ch, ev_fz0, ev_fz1, ev_fz2, ev_fz3, ev_fz4, ev_fz5, ev_st0, ev_sts, fn_0, fn_1, fn_2, fn_3, fn_4, fn_5,
  j_b1, j_b2, j_bL, j_cL, j_mD, j_bT, j_andT, j_andF, j_orF, j_orT, j_not, j_bl, j_aDT, j_aDF, j_oDF, j_oDT, j_ifT, j_ifF, j_seqN, j_seqR, j_seqB, j_set, j_pM, j_ret, j_drop, j_un, j_sl, j_some, j_chT, j_chF, j_chP, j_endR, j_endN, j_nones0, j_nonesS, ix0, ix1, ix2, ix3, ix4, ix5,
  d_lt, d_le, d_gt, d_ge, d_addI, d_sub, d_lenL, d_eqI, d_eqS, d_eqNI, d_eqIN, d_eqNN, d_neI, d_neS, d_neNI, d_neIN, d_neNN, d_isNN, d_isNI, d_isNB, d_isNT, d_isND, d_notNN, d_notNI, d_notNT, d_notND, d_slT, d_neg, d_tupT, d_tupL, d_listL, d_dict, d_intI, d_intB,
  List.length_cons, List.length_nil, Nat.reduceAdd, Nat.reduceSub, if_true, if_false, reduceIte, Bool.not_true, Bool.not_false, decide_true, decide_false, Bool.false_eq_true, tI_len, ev_for, ev_r1, ev_r2, ev_r3, ev_iT, ev_iL, ev_lc, ev_yes, j_for, j_iT, j_iTI, j_iL, isi_tup, isi_tI, isi_int, isi_ib, isi_non, dtup_tI, cut51, cut61, cut62, cut605, cut513, cut624, ixm5, ixm6, d_len2, d_len3, d_len4, d_len5, d_len6, s_ll, s_il, s_ii, s_fl, s_fi, s_li, s_ff, s_lf, s_if, eq_self, gs_0, gs_s, ev_app, ev_put, ev_pop, ev_ownL, ev_ownD, ev_ownC, ev_get2, j_ownL, j_ownC, j_b3, d_get, at_0, at_s, ev_putR, ev_putA, ev_fresh, ev_fld, ev_meth, ev_aM0, ev_aM1, ev_tupM, ev_make, j_fresh, j_fld, j_meth, j_mO, j_aM1, j_aM2, j_tM2, j_make, j_endMR, j_endMN, fnM_0, fnM_1, fnM_2, fnM_4, dr_fr, encS_def, eq_bds, ne_bds, Int.reduceLT, Int.reduceLE, Int.reduceEq, Int.reduceNeg])

def tlk (T : List (Int × Int)) (k : Int) : Option Int := (T.find? fun e => decide (e.1 = k)).map (·.2)
theorem tlk_enc {T : List (Int × Int)} {k : Int} : dLook (encT T) k = (tlk T k).map D.int := by
  unfold dLook tlk encT
  induction T with
  | nil => rfl
  | cons x T ih =>
    rw [List.map_cons, List.find?_cons, List.find?_cons]
    by_cases q : x.1 = k
    · simp [q]
    · simp only [decide_eq_false q]
      exact ih
theorem tlk_some {T : List (Int × Int)} (nd : (T.map (·.1)).Nodup) {k v : Int} : tlk T k = some v ↔ (k, v) ∈ T := by
  unfold tlk
  constructor
  · intro h
    obtain ⟨y, h1, h2⟩ := Option.map_eq_some_iff.mp h
    have h3 := List.mem_of_find?_eq_some h1
    have h4' := List.find?_some h1
    have h4 : y.1 = k := of_decide_eq_true h4'
    obtain ⟨y1, y2⟩ := y
    simp only at h2 h4
    rw [← h2, ← h4]
    exact h3
  · intro h
    obtain ⟨y, hy⟩ : ∃ y, T.find? (fun e => decide (e.1 = k)) = some y := by
      cases hf : T.find? (fun e => decide (e.1 = k)) with
      | some y => exact ⟨y, rfl⟩
      | none =>
        have := List.find?_eq_none.mp hf _ h
        simp at this
    have h3 := List.mem_of_find?_eq_some hy
    have h4' := List.find?_some hy
    have h4 : y.1 = k := of_decide_eq_true h4'
    rw [hy, key_eq nd h3 h h4]
    rfl
theorem cnt_nd {α : Type} [BEq α] [LawfulBEq α] [DecidableEq α] {l : List α} (nd : l.Nodup) (x : α) : l.count x = if x ∈ l then 1 else 0 := by
  by_cases h : x ∈ l
  · rw [if_pos h]
    have h1 := List.nodup_iff_count.mp nd x
    have h2 := List.count_pos_iff.mpr h
    omega
  · rw [if_neg h]
    exact List.count_eq_zero.mpr h
theorem tlk_cnt {T : List (Int × Int)} (nd : (T.map (·.1)).Nodup) (k v : Int) : T.count (k, v) = if tlk T k = some v then 1 else 0 := by
  rw [cnt_nd (nd_map nd)]
  by_cases h : (k, v) ∈ T
  · rw [if_pos h, if_pos ((tlk_some nd).mpr h)]
  · rw [if_neg h, if_neg fun q => h ((tlk_some nd).mp q)]
def tdrop (T : List (Int × Int)) (k : Int) : List (Int × Int) := T.filter fun e => decide (e.1 ≠ k)
def dueT (c : Cl) (T : List (Int × Int)) : List (Int × Int) := match c with
  | .put k v => tput T k v
  | .add k v => if tlk T k = none then tput T k v else T
  | .chg k o n => if tlk T k = some o then tput T k n else T
  | .take k => if tlk T k = none then T else tdrop T k
  | .look _ => T
theorem tput_cnt {T : List (Int × Int)} (nd : (T.map (·.1)).Nodup) {k v : Int} : (∀ x : Int × Int, x.1 ≠ k → (tput T k v).count x = T.count x) ∧ ∀ w, (tput T k v).count (k, w) = if some v = some w then 1 else 0 := by
  have n2 := tput_keys (k := k) (v := v) nd
  refine ⟨fun x hx => ?_, fun w => ?_⟩
  · rw [cnt_nd (nd_map n2), cnt_nd (nd_map nd)]
    have : x ∈ tput T k v ↔ x ∈ T := by
      rw [tput_mem]
      constructor
      · rintro (rfl | h)
        · exact absurd rfl hx
        · exact h.1
      · exact fun h => .inr ⟨h, hx⟩
    by_cases h : x ∈ T
    · rw [if_pos h, if_pos (this.mpr h)]
    · rw [if_neg h, if_neg fun q => h (this.mp q)]
  · rw [cnt_nd (nd_map n2)]
    by_cases h : v = w
    · subst h
      rw [if_pos (tput_mem.mpr (.inl rfl)), if_pos rfl]
    · rw [if_neg, if_neg fun q => h (by injection q)]
      intro hm
      rcases tput_mem.mp hm with q | q
      · injection q with _ q
        exact h q.symm
      · exact q.2 rfl
theorem tput_len {T : List (Int × Int)} {k v : Int} : (tput T k v).length ≤ T.length + 1 := by
  unfold tput
  split
  · rw [List.length_map]
    omega
  · simp
theorem tdrop_cnt {T : List (Int × Int)} {k : Int} : (∀ x : Int × Int, x.1 ≠ k → (tdrop T k).count x = T.count x) ∧ ∀ w, (tdrop T k).count (k, w) = 0 := by
  refine ⟨fun x hx => List.count_filter (decide_eq_true hx), fun w => List.count_eq_zero.mpr fun h => ?_⟩
  exact of_decide_eq_true (List.mem_filter.mp h).2 rfl
structure DueOk (c : Cl) (T T' : List (Int × Int)) : Prop where
  nd : (T'.map (·.1)).Nodup
  len : T'.length ≤ T.length + 1
  oth : ∀ x : Int × Int, x.1 ≠ keyC c → T'.count x = T.count x
  own : ∀ v, T'.count (keyC c, v) = if eff c (tlk T (keyC c)) = some v then 1 else 0
theorem due_ok (c : Cl) {T : List (Int × Int)} (nd : (T.map (·.1)).Nodup) : DueOk c T (dueT c T) := by
  have same : ∀ k : Int, ∀ c : Cl, keyC c = k → eff c (tlk T k) = tlk T k → DueOk c T T := fun k c hk h => ⟨nd, by omega, fun x _ => rfl, fun v => by rw [hk, h]; exact tlk_cnt nd k v⟩
  have put : ∀ k v : Int, ∀ c : Cl, keyC c = k → eff c (tlk T k) = some v → DueOk c T (tput T k v) := fun k v c hk h => ⟨tput_keys nd, tput_len, fun x hx => (tput_cnt nd).1 x (by rw [← hk]; exact hx), fun w => by rw [hk, h]; exact (tput_cnt nd).2 w⟩
  cases c with
  | put k v => exact put k v _ rfl rfl
  | add k v =>
    show DueOk _ T (if tlk T k = none then tput T k v else T)
    by_cases h : tlk T k = none
    · rw [if_pos h]
      exact put k v _ rfl (by rw [h]; rfl)
    · rw [if_neg h]
      refine same k _ rfl ?_
      cases hh : tlk T k with
      | none => exact absurd hh h
      | some w => rfl
  | chg k o n =>
    show DueOk _ T (if tlk T k = some o then tput T k n else T)
    by_cases h : tlk T k = some o
    · rw [if_pos h]
      exact put k n _ rfl (by rw [h]; exact if_pos rfl)
    · rw [if_neg h]
      refine same k _ rfl ?_
      cases hh : tlk T k with
      | none => rfl
      | some w =>
        show (if w = o then some n else some w) = some w
        rw [if_neg]
        rintro rfl
        exact h hh
  | take k =>
    show DueOk _ T (if tlk T k = none then T else tdrop T k)
    by_cases h : tlk T k = none
    · rw [if_pos h]
      exact same k _ rfl (by rw [h]; rfl)
    · rw [if_neg h]
      refine ⟨List.Sublist.nodup (List.filter_sublist.map _) nd, ?_, fun x hx => tdrop_cnt.1 x hx, fun v => ?_⟩
      · have := List.length_filter_le (fun e : Int × Int => decide (e.1 ≠ k)) T
        show (T.filter _).length ≤ _
        omega
      · exact (tdrop_cnt.2 v).trans (by simp [eff])
  | look k => exact same k _ rfl rfl
theorem law_due_ok (c : Cl) {T : List (Int × Int)} (hT : T.length ≤ 1000) : ∃ a, fn_law_due [.dic (encT T), encC c] = some (.tup [a, .dic (encT (dueT c T))]) := by
  have hl : (encT T).length < 100000 := by unfold encT; rw [List.length_map]; omega
  have hg : ∀ k : Int, dGetD .non (.dic (encT T)) (.int k) = some (((tlk T k).map D.int).getD .non) := fun k => by rw [d_get, tlk_enc]
  unfold fn_law_due g_law_due
  cases c with
  | put k v =>
    refine ⟨((tlk T k).map D.int).getD .non, ?_⟩
    have hg := hg k
    rw [encC_put]
    rw [d_get] at hg
    walk_at "ev"
    injection hg with hg
    rw [hg]
    try simp only [t_pp]
    try walk_at "ev"
    rw [j_put hl, enc_tput]
    walk_at "ev"
    rfl
  | add k v =>
    refine ⟨.bl (isN (((tlk T k).map D.int).getD .non)), ?_⟩
    have hg := hg k
    rw [encC_add]
    rw [d_get] at hg
    injection hg with hg
    cases hk : tlk T k with
    | none =>
      have hd : dueT (.add k v) T = tput T k v := if_pos hk
      rw [hk] at hg
      rw [hd]
      walk_at "ev"
      rw [hg]
      simp only [t_ap, t_aa, Option.map_none, Option.getD_none]
      walk_at "ev"
      try simp only [t_ap, t_aa, Option.map_none, Option.getD_none]
      try walk_at "ev"
      rw [j_put hl, enc_tput]
      walk_at "ev"
      rfl
    | some w =>
      have hd : dueT (.add k v) T = T := if_neg (by rw [hk]; simp)
      rw [hk] at hg
      rw [hd]
      walk_at "ev"
      rw [hg]
      simp only [t_ap, t_aa, Option.map_some, Option.getD_some]
      walk_at "ev"
      try simp only [t_ap, t_aa, Option.map_some, Option.getD_some]
      try walk_at "ev"
      rfl
  | chg k o n =>
    have hg := hg k
    rw [encC_chg]
    rw [d_get] at hg
    injection hg with hg
    cases hk : tlk T k with
    | none =>
      have hd : dueT (.chg k o n) T = T := if_neg (by rw [hk]; simp)
      refine ⟨.bl false, ?_⟩
      rw [hk] at hg
      rw [hd]
      walk_at "ev"
      rw [hg]
      simp only [t_cp, t_ca, t_cc, Option.map_none, Option.getD_none]
      walk_at "ev"
      try simp only [t_cp, t_ca, t_cc, Option.map_none, Option.getD_none]
      try walk_at "ev"
      try simp only [t_cp, t_ca, t_cc, Option.map_none, Option.getD_none]
      try walk_at "ev"
    | some w =>
      rw [hk] at hg
      by_cases q : w = o
      · have hd : dueT (.chg k o n) T = tput T k n := if_pos (by rw [hk, q])
        refine ⟨.bl true, ?_⟩
        rw [hd]
        walk_at "ev"
        rw [hg]
        simp only [t_cp, t_ca, t_cc, Option.map_some, Option.getD_some]
        walk_at "ev"
        try simp only [t_cp, t_ca, t_cc, Option.map_some, Option.getD_some]
        try walk_at "ev"
        try simp only [t_cp, t_ca, t_cc, Option.map_some, Option.getD_some]
        try walk_at "ev"
        rw [decide_eq_true q]
        walk_at "ev"
        rw [j_put hl, enc_tput]
        walk_at "ev"
      · have hd : dueT (.chg k o n) T = T := if_neg (by rw [hk]; intro e; injection e with e; exact q e)
        refine ⟨.bl false, ?_⟩
        rw [hd]
        walk_at "ev"
        rw [hg]
        simp only [t_cp, t_ca, t_cc, Option.map_some, Option.getD_some]
        walk_at "ev"
        try simp only [t_cp, t_ca, t_cc, Option.map_some, Option.getD_some]
        try walk_at "ev"
        try simp only [t_cp, t_ca, t_cc, Option.map_some, Option.getD_some]
        try walk_at "ev"
        rw [decide_eq_false q]
        walk_at "ev"
  | take k =>
    have hg := hg k
    rw [encC_take]
    rw [d_get] at hg
    injection hg with hg
    cases hk : tlk T k with
    | none =>
      have hd : dueT (.take k) T = T := if_pos hk
      refine ⟨.non, ?_⟩
      rw [hk] at hg
      rw [hd]
      walk_at "ev"
      rw [hg]
      simp only [t_tp, t_ta, t_tc, t_tt, Option.map_none, Option.getD_none]
      walk_at "ev"
      try simp only [t_tp, t_ta, t_tc, t_tt, Option.map_none, Option.getD_none]
      try walk_at "ev"
      try simp only [t_tp, t_ta, t_tc, t_tt, Option.map_none, Option.getD_none]
      try walk_at "ev"
      try simp only [t_tp, t_ta, t_tc, t_tt, Option.map_none, Option.getD_none]
      try walk_at "ev"
    | some w =>
      have hd : dueT (.take k) T = tdrop T k := if_neg (by rw [hk]; simp)
      refine ⟨.int w, ?_⟩
      rw [hk] at hg
      rw [hd]
      have hpop : ∀ ρ : En, popO (some (.int k)) (some (some (.od (encT T)))) 2 ρ = some (.nx (ρ.set 2 (some (.od (encT (tdrop T k)))))) := fun ρ => by
        show (if (dLook (encT T) k).isSome then _ else none) = _
        rw [tlk_enc, hk]
        show some (Out.nx (ρ.set 2 (some (.od (dDrop (encT T) k))))) = _
        congr 5
        unfold dDrop encT tdrop
        rw [List.filter_map]
        rfl
      walk_at "ev"
      rw [hg]
      simp only [t_tp, t_ta, t_tc, t_tt, Option.map_some, Option.getD_some]
      walk_at "ev"
      try simp only [t_tp, t_ta, t_tc, t_tt, Option.map_some, Option.getD_some]
      try walk_at "ev"
      try simp only [t_tp, t_ta, t_tc, t_tt, Option.map_some, Option.getD_some]
      try walk_at "ev"
      try simp only [t_tp, t_ta, t_tc, t_tt, Option.map_some, Option.getD_some]
      try walk_at "ev"
      rw [hpop]
      walk_at "ev"
  | look k =>
    have hg := hg k
    rw [encC_look]
    rw [d_get] at hg
    injection hg with hg
    refine ⟨((tlk T k).map D.int).getD .non, ?_⟩
    walk_at "ev"
    rw [hg]
    simp only [t_lp, t_la, t_lc, t_lt]
    walk_at "ev"
    try simp only [t_lp, t_la, t_lc, t_lt]
    try walk_at "ev"
    try simp only [t_lp, t_la, t_lc, t_lt]
    try walk_at "ev"
    try simp only [t_lp, t_la, t_lc, t_lt]
    try walk_at "ev"
    rfl
end K32
end
section
set_option Elab.async false
set_option linter.all false
set_option maxRecDepth 100000
set_option maxHeartbeats 1000000
/-! one plan, two plans -/
namespace K32
open PySem PySem.Spec PyProof.Rows L2
local macro_rules | `(tactic| walk_at "ev") => `(tactic| simp only [ev_f2, ev_f1, ev_fC, ev_v0, ev_vs, ev_c0, ev_c1, ev_c2, ev_cs, ev_call, ev_all0, ev_all1, ev_tup, ev_lst, ev_T, ev_andT, ev_orT, ev_notT, ev_and, ev_or, ev_not, ev_if, ev_seq, ev_nx, ev_bk, ev_no, ev_set, ev_M, ev_ret, ev_drop, ev_un, ev_ns1, ev_ns0, ev_sl, ev_o0, ev_o1, ev_neg, ev_ch, ev_fz0, ev_fz1, ev_fz2, ev_fz3, ev_fz4, ev_fz5, ev_st0, ev_sts, fn_0, fn_1, fn_2, fn_3, fn_4, fn_5,
  j_b1, j_b2, j_bL, j_cL, j_mD, j_bT, j_andT, j_andF, j_orF, j_orT, j_not, j_bl, j_aDT, j_aDF, j_oDF, j_oDT, j_ifT, j_ifF, j_seqN, j_seqR, j_seqB, j_set, j_pM, j_ret, j_drop, j_un, j_sl, j_some, j_chT, j_chF, j_chP, j_endR, j_endN, j_nones0, j_nonesS, ix0, ix1, ix2, ix3, ix4, ix5,
  d_lt, d_le, d_gt, d_ge, d_addI, d_sub, d_lenL, d_eqI, d_eqS, d_eqNI, d_eqIN, d_eqNN, d_neI, d_neS, d_neNI, d_neIN, d_neNN, d_isNN, d_isNI, d_isNB, d_isNT, d_isND, d_notNN, d_notNI, d_notNT, d_notND, d_slT, d_neg, d_tupT, d_tupL, d_listL, d_dict, d_intI, d_intB,
  List.length_cons, List.length_nil, Nat.reduceAdd, Nat.reduceSub, if_true, if_false, reduceIte, Bool.not_true, Bool.not_false, decide_true, decide_false, Bool.false_eq_true, tI_len, ev_for, ev_r1, ev_r2, ev_r3, ev_iT, ev_iL, ev_lc, ev_yes, j_for, j_iT, j_iTI, j_iL, isi_tup, isi_tI, isi_int, isi_ib, isi_non, dtup_tI, cut51, cut61, cut62, cut605, cut513, cut624, ixm5, ixm6, d_len2, d_len3, d_len4, d_len5, d_len6, s_ll, s_il, s_ii, s_fl, s_fi, s_li, s_ff, s_lf, s_if, eq_self, gs_0, gs_s, ev_app, ev_put, ev_pop, ev_ownL, ev_ownD, ev_ownC, ev_get2, j_ownL, j_ownC, j_b3, d_get, at_0, at_s, ev_putR, ev_putA, ev_fresh, ev_fld, ev_meth, ev_aM0, ev_aM1, ev_tupM, ev_make, j_fresh, j_fld, j_meth, j_mO, j_aM1, j_aM2, j_tM2, j_make, j_endMR, j_endMN, fnM_0, fnM_1, fnM_2, fnM_4, dr_fr, encS_def, eq_bds, ne_bds, Int.reduceLT, Int.reduceLE, Int.reduceEq, Int.reduceNeg])
local macro_rules | `(tactic| walk_at "evh") => `(tactic| simp only [*, ev_f2, ev_f1, ev_fC, ev_v0, ev_vs, ev_c0, ev_c1, ev_c2, ev_cs, ev_call, ev_all0, ev_all1, ev_tup, ev_lst, ev_T, ev_andT, ev_orT, ev_notT, ev_and, ev_or, ev_not, ev_if, ev_seq, ev_nx, ev_bk, ev_no, ev_set, ev_M, ev_ret, ev_drop, ev_un, ev_ns1, ev_ns0, ev_sl, ev_o0, ev_o1, ev_neg, ev_ch, ev_fz0, ev_fz1, ev_fz2, ev_fz3, ev_fz4, ev_fz5, ev_st0, ev_sts, fn_0, fn_1, fn_2, fn_3, fn_4, fn_5,
  j_b1, j_b2, j_bL, j_cL, j_mD, j_bT, j_andT, j_andF, j_orF, j_orT, j_not, j_bl, j_aDT, j_aDF, j_oDF, j_oDT, j_ifT, j_ifF, j_seqN, j_seqR, j_seqB, j_set, j_pM, j_ret, j_drop, j_un, j_sl, j_some, j_chT, j_chF, j_chP, j_endR, j_endN, j_nones0, j_nonesS, ix0, ix1, ix2, ix3, ix4, ix5,
  d_lt, d_le, d_gt, d_ge, d_addI, d_sub, d_lenL, d_eqI, d_eqS, d_eqNI, d_eqIN, d_eqNN, d_neI, d_neS, d_neNI, d_neIN, d_neNN, d_isNN, d_isNI, d_isNB, d_isNT, d_isND, d_notNN, d_notNI, d_notNT, d_notND, d_slT, d_neg, d_tupT, d_tupL, d_listL, d_dict, d_intI, d_intB,
  List.length_cons, List.length_nil, Nat.reduceAdd, Nat.reduceSub, if_true, if_false, reduceIte, Bool.not_true, Bool.not_false, decide_true, decide_false, Bool.false_eq_true, tI_len, ev_for, ev_r1, ev_r2, ev_r3, ev_iT, ev_iL, ev_lc, ev_yes, j_for, j_iT, j_iTI, j_iL, isi_tup, isi_tI, isi_int, isi_ib, isi_non, dtup_tI, cut51, cut61, cut62, cut605, cut513, cut624, ixm5, ixm6, d_len2, d_len3, d_len4, d_len5, d_len6, s_ll, s_il, s_ii, s_fl, s_fi, s_li, s_ff, s_lf, s_if, eq_self, gs_0, gs_s, ev_app, ev_put, ev_pop, ev_ownL, ev_ownD, ev_ownC, ev_get2, j_ownL, j_ownC, j_b3, d_get, at_0, at_s, ev_putR, ev_putA, ev_fresh, ev_fld, ev_meth, ev_aM0, ev_aM1, ev_tupM, ev_make, j_fresh, j_fld, j_meth, j_mO, j_aM1, j_aM2, j_tM2, j_make, j_endMR, j_endMN, fnM_0, fnM_1, fnM_2, fnM_4, dr_fr, encS_def, eq_bds, ne_bds, Int.reduceLT, Int.reduceLE, Int.reduceEq, Int.reduceNeg])

def itN (x : Int × Int) (e : Pg) : Nat := (its e.2.2).count x
structure Good (P : List Pg) (T : List (Int × Int)) (n : Nat) : Prop where
  ex : Exact P
  nd : (T.map (·.1)).Nodup
  agree : ∀ x, sm (itN x) P = T.count x
  len : T.length ≤ n
theorem sm_zero {α : Type} {f : α → Nat} : ∀ {l : List α}, sm f l = 0 → ∀ x ∈ l, f x = 0
  | y :: l, h, x, hx => by
    rw [sm_cons] at h
    rcases List.mem_cons.mp hx with rfl | hx
    · omega
    · exact sm_zero (l := l) (by omega) x hx
theorem sm_single {α : Type} {f : α → Nat} {a : α} : ∀ {l : List α}, l.Nodup → a ∈ l → (∀ x ∈ l, x ≠ a → f x = 0) → sm f l = f a
  | y :: l, nd, h, hz => by
    rw [List.nodup_cons] at nd
    rw [sm_cons]
    rcases List.mem_cons.mp h with rfl | h1
    · have : sm f l = sm (fun _ => 0) l := sm_eq fun x hx => hz x (List.mem_cons_of_mem _ hx) fun e => nd.1 (e ▸ hx)
      rw [this, sm_const (c := 0) fun _ _ => rfl]
      omega
    · rw [hz y List.mem_cons_self fun e => nd.1 (e ▸ h1), sm_single nd.2 h1 fun x hx => hz x (List.mem_cons_of_mem _ hx)]
      omega
section
variable {P : List Pg} {T : List (Int × Int)} {n : Nat} (G : Good P T n)
include G
theorem Good.perm : (P.flatMap fun e => its e.2.2).Perm T := List.perm_iff_count.mpr fun x => by
  rw [sm_count]
  exact G.agree x
theorem Good.size : sm liveN P ≤ n + 1 ∧ 2 * sm leafN P ≤ n + 2 := by
  have h1 := G.ex.count
  have h2 := G.perm.length_eq
  have h3 : (P.flatMap fun e => its e.2.2).length = sm (fun e => (its e.2.2).length) P := by
    rw [List.length_flatMap]
    rfl
  have := G.len
  omega
theorem Good.low (hn : n ≤ 62) : ∃ a r L, (0, a, r) ∈ P ∧ lvl r = L ∧ L ≤ 8 := by
  obtain ⟨a, r, hr, _⟩ := G.ex.root
  refine ⟨a, r, lvl r, hr, rfl, ?_⟩
  have h1 := G.ex.deep hr
  have h2 := G.size
  by_cases q : lvl r ≤ 8
  · exact q
  · have h3 : 2 ^ 9 ≤ 2 ^ (lvl r).toNat := Nat.pow_le_pow_right (by omega) (by omega)
    omega
theorem Good.map (hn : n ≤ 62) : ∃ M, fn_law_map [.dic (encP P)] = some (.dic (encT M)) ∧ MI M T T := by
  have := G.len
  refine map_ok G.ex G.nd (by omega) (fun e he x hx => ?_) fun x hx => ?_
  · exact G.perm.subset (List.mem_flatMap.mpr ⟨e, he, hx⟩)
  · exact List.mem_flatMap.mp (G.perm.symm.subset hx)
/-- the leaf that a call reaches, and what it holds -/
theorem Good.plan (hn : n ≤ 62) (c : Cl) : ∃ s told, (s.p, s.a, s.r) ∈ P ∧ live s.r ∧ lvl s.r = 0 ∧ Cov (lo_ s.r) (hi_ s.r) (keyC c) ∧ (∀ v, (its s.r).count (keyC c, v) = if tlk T (keyC c) = some v then 1 else 0) ∧ fn_law_planned [.dic (encP P), encC c] = some told ∧ PlanRes P c s (tlk T (keyC c)) told := by
  obtain ⟨a, r, L, hr, hL, hL2⟩ := G.low hn
  obtain ⟨s, lo, hi, ks, vs, old, told, h1, h2, h3, h4, h5, h6⟩ := planned_ok G.ex hr hL hL2 c
  have hl : live s.r := by rw [h2]; rfl
  have hv : lvl s.r = 0 := by rw [h2]; rfl
  have hc : Cov (lo_ s.r) (hi_ s.r) (keyC c) := by rw [h2]; exact h3
  have hs : ∀ v, (its s.r).count (keyC c, v) = T.count (keyC c, v) := fun v => by
    rw [← G.agree]
    have := sm_single (f := itN (keyC c, v)) (nd_map G.ex.nd) h1 fun e he hne => by
      refine List.count_eq_zero.mpr fun hm => hne ?_
      cases hr : e.2.2 with
      | free n => rw [hr] at hm; cases hm
      | inner => rw [hr] at hm; cases hm
      | leaf lo' hi' ks' vs' =>
        rw [hr] at hm
        have hm : (keyC c, v) ∈ ks'.zip vs' := hm
        have hle : live e.2.2 := by rw [hr]; rfl
        have O : OkL lo' hi' ks' vs' := by have := (G.ex.ok e he hle).1; rw [hr] at this; exact this
        exact G.ex.leafOne he h1 hle hl (by rw [hr]; rfl) hv (by rw [hr]; exact O.cov _ (List.of_mem_zip hm).1) hc
    exact this.symm
  have ho : old = tlk T (keyC c) := by
    have key : ∀ v, old = some v ↔ tlk T (keyC c) = some v := fun v => by
      have e1 := h4 v
      have e2 := hs v
      rw [h2] at e2
      have e2 : (ks.zip vs).count (keyC c, v) = T.count (keyC c, v) := e2
      rw [e2, tlk_cnt G.nd] at e1
      constructor
      · intro q
        rw [if_pos q] at e1
        by_cases z : tlk T (keyC c) = some v
        · exact z
        · rw [if_neg z] at e1
          cases e1
      · intro q
        rw [if_pos q] at e1
        by_cases z : old = some v
        · exact z
        · rw [if_neg z] at e1
          cases e1
    cases ho : old with
    | some v => exact ((key v).mp ho).symm
    | none =>
      cases ht : tlk T (keyC c) with
      | none => rfl
      | some v => rw [(key v).mpr ht] at ho; cases ho
  subst ho
  exact ⟨s, told, h1, hl, hv, hc, fun v => by rw [hs v, tlk_cnt G.nd], h5, h6⟩
/-- a plan applied -/
theorem Good.step {P' : List Pg} {c : Cl} {r0 r1 : Rc} {R : List Tr} (A : After P P' r0 r1 R) (ho : ∀ v, (its r0).count (keyC c, v) = if tlk T (keyC c) = some v then 1 else 0) (L : LeafTo c r0 r1 (tlk T (keyC c))) : Good P' (dueT c T) (n + 1) := by
  have D := due_ok c G.nd
  refine ⟨A.ex, D.nd, fun x => ?_, by have := D.len; have := G.len; omega⟩
  have h1 := A.itm x
  have h2 := G.agree x
  have h1 : sm (itN x) P' + (its r0).count x = sm (itN x) P + (its r1).count x := h1
  by_cases q : x.1 = keyC c
  · obtain ⟨k, v⟩ := x
    obtain rfl : k = keyC c := q
    rw [D.own]
    rw [ho, L.own] at h1
    rw [tlk_cnt G.nd] at h2
    omega
  · have h3 := L.oth x q
    rw [D.oth x q]
    omega
theorem Good.apply (hn : n ≤ 62) {lp : Int} {r0 r1 : Rc} {R : List Tr} {fr : Nat} (Pl : Plan P r0 r1 lp R fr) : ∃ P', fn_law_applied [.dic (encP P), .lst ((R.map entT).map encE)] = some (.dic (encP P')) ∧ After P P' r0 r1 R := by
  have sz := G.size
  have hfr : fr ≤ 90 := by
    rw [← Pl.neg]
    have := List.length_filter_le (fun t : Tr => decide (t.p < 0)) R
    have := Pl.len
    omega
  obtain ⟨F, eF, hF, ndF, hE⟩ := free_ok G.ex.nd (n := fr) (by omega)
  have hne : P ≠ [] := by
    obtain ⟨a, r, hr, _⟩ := G.ex.root
    intro h
    rw [h] at hr
    cases hr
  have hpl := G.ex.len
  have named : ∀ t ∈ R, -(F.length : Int) ≤ t.p ∧ Named F.length t.new := fun t ht => by
    refine ⟨?_, fun lv lo hi ks ps e => ?_⟩
    · rcases Pl.pg t ht with ⟨_, h, _⟩ | ⟨h, _⟩ <;> omega
    · have O : OkI lv lo hi ks ps := by have := (Pl.sized t ht (by rw [e]; rfl)).1; rw [e] at this; exact this
      have S := (Pl.sized t ht (by rw [e]; rfl)).2
      refine ⟨fun p hp => ?_, ?_⟩
      · -- the page is a page of the plan, or of the tree
        have hk : ∃ sl ∈ kids t.new, sl.1 = p := by
          have h1 : (kids t.new).map (·.1) = ps := by rw [e]; exact kidsF_pages O.len
          rw [← h1] at hp
          exact List.mem_map.mp hp
        obtain ⟨sl, hsl, rfl⟩ := hk
        have h1 : 0 < sm (kN sl) R := by
          by_cases z : sm (kN sl) R = 0
          · have := sm_zero z t ht
            have h2 : 0 < (kids t.new).count sl := List.count_pos_iff.mpr hsl
            have h3 : (kids t.new).count sl = 0 := this
            omega
          · omega
        have h2 := Pl.bal sl
        have h3 : sm (oN sl) R ≠ 0 ∨ sm (kO sl) R ≠ 0 := by omega
        have pos : ∀ f : Tr → Nat, sm f R ≠ 0 → ∃ u ∈ R, f u ≠ 0 := fun f hf => by
          by_cases z : ∃ u ∈ R, f u ≠ 0
          · exact z
          · exfalso
            apply hf
            have : sm f R = sm (fun _ => 0) R := sm_eq fun u hu => by
              by_cases q : f u = 0
              · exact q
              · exact absurd ⟨u, hu, q⟩ z
            rw [this, sm_const (c := 0) fun _ _ => rfl]
            omega
        rcases h3 with h3 | h3
        · obtain ⟨u, hu, hq⟩ := pos _ h3
          have hq : (off u.p u.new).count sl ≠ 0 := hq
          have hm : sl ∈ off u.p u.new := List.count_pos_iff.mp (by omega)
          obtain ⟨_, _, rfl⟩ := off_mem hm
          show -(F.length : Int) ≤ u.p
          rcases Pl.pg u hu with ⟨_, h, _⟩ | ⟨h, _⟩ <;> omega
        · obtain ⟨u, hu, hq⟩ := pos _ h3
          have hq : (kids u.old).count sl ≠ 0 := hq
          have hm : sl ∈ kids u.old := List.count_pos_iff.mp (by omega)
          rcases Pl.pg u hu with ⟨_, _, h⟩ | ⟨_, h, _⟩
          · rw [h] at hm
            cases hm
          · obtain ⟨e', he', hs, _⟩ := G.ex.child h hm
            have := (G.ex.rng e' he').1
            rw [hs]
            show -(F.length : Int) ≤ e'.1
            omega
      · have h1 := S.1
        rw [e, sz_inner] at h1
        have h2 : most (Rc.inner lv lo hi ks ps) ≤ 5 := by unfold most; split <;> omega
        omega
  obtain ⟨m, hm, ea⟩ := applied_some G.ex.nd (by omega) hne Pl.len (fun t ht hb => by
    rcases Pl.pg t ht with ⟨h, _⟩ | ⟨_, h, _⟩
    · have := hb.1
      omega
    · exact hb.2 _ h rfl rfl) Pl.neg eF named
  exact ⟨_, ea, after_ok G.ex Pl hF ndF hE hm⟩
end
/-- the second plan stands on the tree after the first -/
theorem Plan.move {P P' : List Pg} {r0 r1 : Rc} {lp : Int} {R : List Tr} {fr : Nat} (Pl : Plan P r0 r1 lp R fr) (h : ∀ t ∈ R, 0 ≤ t.p → (t.p, t.a, t.old) ∈ P → live t.old → (t.p, t.a, t.old) ∈ P') : Plan P' r0 r1 lp R fr :=
  { Pl with pg := fun t ht => (Pl.pg t ht).imp id fun ⟨a, b, c⟩ => ⟨a, h t ht a b c, c⟩ }
theorem dict_same {M T T2 : List (Int × Int)} (h : MI M T T) (nd : (T.map (·.1)).Nodup) (nd2 : (T2.map (·.1)).Nodup) (hc : ∀ x, T.count x = T2.count x) : dEqDic (.dic (encT M)) (.dic (encT T2)) = some (.bl true) := by
  have hp : T.Perm T2 := List.perm_iff_count.mpr hc
  have hm : M.Perm T := (List.perm_ext_iff_of_nodup (nd_map h.nd) (nd_map nd)).mpr fun x => ⟨h.sub x, h.all x⟩
  have e : dicEq (encT M) (encT T2) = true := by
    unfold dicEq
    rw [Bool.and_eq_true]
    refine ⟨decide_eq_true (by unfold encT; rw [List.length_map, List.length_map]; exact (hm.trans hp).length_eq), ?_⟩
    rw [List.all_eq_true]
    intro x hx
    obtain ⟨y, hy, rfl⟩ := List.mem_map.mp hx
    have h1 : y ∈ T2 := (hm.trans hp).subset hy
    have h2 : tlk T2 y.1 = some y.2 := (tlk_some nd2).mpr h1
    show (match D.int y.2, dLook (encT T2) y.1 with
      | .int i, some (.int j) => decide (i = j)
      | _, _ => false) = true
    rw [tlk_enc, h2]
    exact decide_eq_true rfl
  show (if dicEq (encT M) (encT T2) then some (D.bl true) else none) = _
  rw [e]
  rfl
def toldC (a : D) (R : List Tr) : D := .tup [.str "change", a, .lst ((R.map entT).map encE)]
theorem both_ok {P : List Pg} {T T2 : List (Int × Int)} {n : Nat} (G : Good P T n) (hn : n ≤ 60) {c c' : Cl} (hk : keyC c ≠ keyC c') {s s' : Step} {r1 r1' : Rc} {R R' : List Tr} {fr fr' : Nat} {a a' : D}
    (Pl : Plan P s.r r1 s.p R fr) (Pl' : Plan P s'.r r1' s'.p R' fr') (L : LeafTo c s.r r1 (tlk T (keyC c))) (L' : LeafTo c' s'.r r1' (tlk T (keyC c')))
    (ho : ∀ v, (its s.r).count (keyC c, v) = if tlk T (keyC c) = some v then 1 else 0) (ho' : ∀ v, (its s'.r).count (keyC c', v) = if tlk T (keyC c') = some v then 1 else 0)
    (hd : ∀ t ∈ R', 0 ≤ t.p → t.p ∉ R.map (·.p)) (nd2 : (T2.map (·.1)).Nodup) (hT2 : ∀ x, (dueT c' (dueT c T)).count x = T2.count x) :
    fn_law_both [.dic (encP P), toldC a R, toldC a' R', .dic (encT T2)] = some (.bl true) := by
  obtain ⟨P1, e1, A1⟩ := G.apply (by omega) Pl
  have G1 := G.step A1 ho L
  obtain ⟨M1, m1, _⟩ := G1.map (by omega)
  have D := due_ok c G.nd
  have tl : tlk (dueT c T) (keyC c') = tlk T (keyC c') := by
    have key : ∀ v, tlk (dueT c T) (keyC c') = some v ↔ tlk T (keyC c') = some v := fun v => by
      have h1 := D.oth (keyC c', v) (fun e => hk e.symm)
      rw [tlk_some D.nd, tlk_some G.nd, ← List.count_pos_iff, ← List.count_pos_iff, h1]
    cases h1 : tlk T (keyC c') with
    | some v => exact (key v).mpr h1
    | none =>
      cases h2 : tlk (dueT c T) (keyC c') with
      | none => rfl
      | some v => rw [(key v).mp h2] at h1; cases h1
  have Pl1 : Plan P1 s'.r r1' s'.p R' fr' := Pl'.move fun t ht h0 hm hl => A1.keep _ hm hl (hd t ht h0)
  obtain ⟨P2, e2, A2⟩ := G1.apply (by omega) Pl1
  have G2 := G1.step (c := c') A2 (fun v => by rw [tl]; exact ho' v) (by rw [tl]; exact L')
  obtain ⟨M2, m2, I2⟩ := G2.map (by omega)
  have de := dict_same I2 G2.nd nd2 hT2
  unfold fn_law_both g_law_both toldC
  walk_at "ev"
  rw [e1]
  walk_at "ev"
  rw [m1]
  walk_at "ev"
  rw [e2]
  walk_at "ev"
  rw [m2]
  simp only [j_b2, de]
  walk_at "ev"
theorem alone_ok {P : List Pg} {T : List (Int × Int)} {n : Nat} (G : Good P T n) (hn : n ≤ 60) {c : Cl} {s s' : Step} {r1 r1' : Rc} {R R' : List Tr} {fr fr' : Nat} {a a' : D}
    (Pl : Plan P s.r r1 s.p R fr) (Pl' : Plan P s'.r r1' s'.p R' fr') (L : LeafTo c s.r r1 (tlk T (keyC c)))
    (ho : ∀ v, (its s.r).count (keyC c, v) = if tlk T (keyC c) = some v then 1 else 0)
    (hd : ∃ t ∈ R', 0 ≤ t.p ∧ t.p ∈ R.map (·.p)) :
    fn_law_alone [.dic (encP P), toldC a R, toldC a' R'] = some (.bl true) := by
  obtain ⟨P1, e1, A1⟩ := G.apply (by omega) Pl
  have G1 := G.step A1 ho L
  obtain ⟨M1, m1, _⟩ := G1.map (by omega)
  have e2 := applied_none (R := R') A1.ex.nd (by
    obtain ⟨t, ht, h0, hm⟩ := hd
    obtain ⟨u, hu, hup⟩ := List.mem_map.mp hm
    obtain ⟨b, r, hb, hbig⟩ := A1.new u hu (by omega)
    refine ⟨t, ht, h0, fun e he hp => ?_⟩
    have e3 := nd_eq A1.ex.nd he hb (hp.trans hup.symm)
    rcases Pl'.pg t ht with ⟨h, _⟩ | ⟨_, h, _⟩
    · omega
    · have h4 : t.a < b := hbig _ h
      have h5 : e.2.1 = b := congrArg (fun z : Pg => z.2.1) e3
      omega)
  unfold fn_law_alone g_law_alone toldC
  walk_at "ev"
  rw [e1]
  walk_at "ev"
  rw [m1]
  walk_at "ev"
  rw [e2]
  walk_at "ev"
end K32
end
section
set_option Elab.async false
set_option linter.all false
set_option maxRecDepth 100000
set_option maxHeartbeats 1000000
/-! the law's calls -/
namespace K32
open PySem PySem.Spec PyProof.Rows L2
local macro_rules | `(tactic| walk_at "ev") => `(tactic| simp only [ev_f2, ev_f1, ev_fC, ev_v0, ev_vs, ev_c0, ev_c1, ev_c2, ev_cs, ev_call, ev_all0, ev_all1, ev_tup, ev_lst, ev_T, ev_andT, ev_orT, ev_notT, ev_and, ev_or, ev_not, ev_if, ev_seq, ev_nx, ev_bk, ev_no, ev_set, ev_M, ev_ret, ev_drop, ev_un, ev_ns1, ev_ns0, ev_sl, ev_o0, ev_o1, ev_neg, ev_ch, ev_fz0, ev_fz1, ev_fz2, ev_fz3, ev_fz4, ev_fz5, ev_st0, ev_sts, fn_0, fn_1, fn_2, fn_3, fn_4, fn_5,
  j_b1, j_b2, j_bL, j_cL, j_mD, j_bT, j_andT, j_andF, j_orF, j_orT, j_not, j_bl, j_aDT, j_aDF, j_oDF, j_oDT, j_ifT, j_ifF, j_seqN, j_seqR, j_seqB, j_set, j_pM, j_ret, j_drop, j_un, j_sl, j_some, j_chT, j_chF, j_chP, j_endR, j_endN, j_nones0, j_nonesS, ix0, ix1, ix2, ix3, ix4, ix5,
  d_lt, d_le, d_gt, d_ge, d_addI, d_sub, d_lenL, d_eqI, d_eqS, d_eqNI, d_eqIN, d_eqNN, d_neI, d_neS, d_neNI, d_neIN, d_neNN, d_isNN, d_isNI, d_isNB, d_isNT, d_isND, d_notNN, d_notNI, d_notNT, d_notND, d_slT, d_neg, d_tupT, d_tupL, d_listL, d_dict, d_intI, d_intB,
  List.length_cons, List.length_nil, Nat.reduceAdd, Nat.reduceSub, if_true, if_false, reduceIte, Bool.not_true, Bool.not_false, decide_true, decide_false, Bool.false_eq_true, tI_len, ev_for, ev_r1, ev_r2, ev_r3, ev_iT, ev_iL, ev_lc, ev_yes, j_for, j_iT, j_iTI, j_iL, isi_tup, isi_tI, isi_int, isi_ib, isi_non, dtup_tI, cut51, cut61, cut62, cut605, cut513, cut624, ixm5, ixm6, d_len2, d_len3, d_len4, d_len5, d_len6, s_ll, s_il, s_ii, s_fl, s_fi, s_li, s_ff, s_lf, s_if, eq_self, gs_0, gs_s, ev_app, ev_put, ev_pop, ev_ownL, ev_ownD, ev_ownC, ev_get2, j_ownL, j_ownC, j_b3, d_get, at_0, at_s, ev_putR, ev_putA, ev_fresh, ev_fld, ev_meth, ev_aM0, ev_aM1, ev_tupM, ev_make, j_fresh, j_fld, j_meth, j_mO, j_aM1, j_aM2, j_tM2, j_make, j_endMR, j_endMN, fnM_0, fnM_1, fnM_2, fnM_4, dr_fr, encS_def, eq_bds, ne_bds, Int.reduceLT, Int.reduceLE, Int.reduceEq, Int.reduceNeg])
local macro_rules | `(tactic| walk_at "evh") => `(tactic| simp only [*, ev_f2, ev_f1, ev_fC, ev_v0, ev_vs, ev_c0, ev_c1, ev_c2, ev_cs, ev_call, ev_all0, ev_all1, ev_tup, ev_lst, ev_T, ev_andT, ev_orT, ev_notT, ev_and, ev_or, ev_not, ev_if, ev_seq, ev_nx, ev_bk, ev_no, ev_set, ev_M, ev_ret, ev_drop, ev_un, ev_ns1, ev_ns0, ev_sl, ev_o0, ev_o1, ev_neg, ev_ch, ev_fz0, ev_fz1, ev_fz2, ev_fz3, ev_fz4, ev_fz5, ev_st0, ev_sts, fn_0, fn_1, fn_2, fn_3, fn_4, fn_5,
  j_b1, j_b2, j_bL, j_cL, j_mD, j_bT, j_andT, j_andF, j_orF, j_orT, j_not, j_bl, j_aDT, j_aDF, j_oDF, j_oDT, j_ifT, j_ifF, j_seqN, j_seqR, j_seqB, j_set, j_pM, j_ret, j_drop, j_un, j_sl, j_some, j_chT, j_chF, j_chP, j_endR, j_endN, j_nones0, j_nonesS, ix0, ix1, ix2, ix3, ix4, ix5,
  d_lt, d_le, d_gt, d_ge, d_addI, d_sub, d_lenL, d_eqI, d_eqS, d_eqNI, d_eqIN, d_eqNN, d_neI, d_neS, d_neNI, d_neIN, d_neNN, d_isNN, d_isNI, d_isNB, d_isNT, d_isND, d_notNN, d_notNI, d_notNT, d_notND, d_slT, d_neg, d_tupT, d_tupL, d_listL, d_dict, d_intI, d_intB,
  List.length_cons, List.length_nil, Nat.reduceAdd, Nat.reduceSub, if_true, if_false, reduceIte, Bool.not_true, Bool.not_false, decide_true, decide_false, Bool.false_eq_true, tI_len, ev_for, ev_r1, ev_r2, ev_r3, ev_iT, ev_iL, ev_lc, ev_yes, j_for, j_iT, j_iTI, j_iL, isi_tup, isi_tI, isi_int, isi_ib, isi_non, dtup_tI, cut51, cut61, cut62, cut605, cut513, cut624, ixm5, ixm6, d_len2, d_len3, d_len4, d_len5, d_len6, s_ll, s_il, s_ii, s_fl, s_fi, s_li, s_ff, s_lf, s_if, eq_self, gs_0, gs_s, ev_app, ev_put, ev_pop, ev_ownL, ev_ownD, ev_ownC, ev_get2, j_ownL, j_ownC, j_b3, d_get, at_0, at_s, ev_putR, ev_putA, ev_fresh, ev_fld, ev_meth, ev_aM0, ev_aM1, ev_tupM, ev_make, j_fresh, j_fld, j_meth, j_mO, j_aM1, j_aM2, j_tM2, j_make, j_endMR, j_endMN, fnM_0, fnM_1, fnM_2, fnM_4, dr_fr, encS_def, eq_bds, ne_bds, Int.reduceLT, Int.reduceLE, Int.reduceEq, Int.reduceNeg])

inductive Dig : List Int → List Int → Prop where
  | nil : Dig [] []
  | cons {d b : Int} {ds bs : List Int} : 0 ≤ d → d < b → Dig ds bs → Dig (d :: ds) (b :: bs)
theorem mul_ok {i j : Int} (h : -18446744073709551616 < j ∧ j < 18446744073709551616) : mulOk i j = true := by
  unfold mulOk
  rw [decide_eq_true h.1, decide_eq_true h.2]
  simp
theorem mul_ok2 {i j : Int} (h : -18446744073709551616 < i ∧ i < 18446744073709551616) : mulOk i j = true := by
  unfold mulOk
  rw [decide_eq_true h.1, decide_eq_true h.2]
  simp
def b_dig : FS := (gIf (fT (f2 dGe (fVar 0) (f2 dPow (fC (.int 10)) (fC (.int 18))))) (gSeq (gApp 2 (f2 dMod (f1 dInt (fVar 3)) (fVar 4)))
  (gSet 3 (fM (f2 dDiv (fVar 3) (fVar 4))))) (gSeq (gSet 3 (fM (f2 dMod (f2 dAdd (f2 dAdd (f2 dMul (f1 dInt (fVar 3)) (fC (.int 48271))) (f2 dMul (fC (.int 1009)) (f1 dLen (fVarC 2)))) (fC (.int 12345))) (fC (.int 2147483647)))))
  (gSeq (gSet 5 (fM (f2 dMod (f2 dMul (f1 dInt (fVar 3)) (f1 dInt (fVar 3))) (fC (.int 2147483629)))))
  (gApp 2 (f2 dMod (f2 dDiv (f1 dInt (fVar 5)) (fC (.int 13))) (fVar 4))))))
theorem dig_loop {c : Int} {e1 : D} : ∀ (bs L : List Int) (r : Int) (x4 x5 : Option Sl), (∀ b ∈ bs, 0 < b ∧ b < 1000) → L.length + bs.length ≤ 100 →
    ∃ L' r' y4 y5, Dig L' bs ∧ loopS (bName 4) b_dig (bs.map D.int) [some (.fz (.int c)), some (.fz e1), some (.ol (L.map D.int)), some (.fz (.int r)), x4, x5] = some (.nx [some (.fz (.int c)), some (.fz e1), some (.ol ((L ++ L').map D.int)), some (.fz (.int r')), y4, y5]) := by
  intro bs
  induction bs with
  | nil => intro L r x4 x5 _ _; exact ⟨[], r, x4, x5, .nil, by rw [List.append_nil]; rfl⟩
  | cons b bs ih =>
    intro L r x4 x5 hb hl
    obtain ⟨hb1, hb2⟩ := hb b List.mem_cons_self
    rw [List.length_cons] at hl
    have ap : ∀ (d : Int) (ρ : En), appO (some (some (.ol (L.map D.int)))) (some (.int d)) 2 ρ = some (.nx (ρ.set 2 (some (.ol ((L ++ [d]).map D.int))))) := fun d ρ => by
      rw [j_app (by rw [List.length_map]; omega), List.map_append]
      rfl
    have pw : dPow (.int 10) (.int 18) = some (.int 1000000000000000000) := by
      show (if (0 : Int) ≤ 10 ∧ (10 : Int) ≤ 1000 ∧ (0 : Int) ≤ 18 ∧ (18 : Int) ≤ 1000 then some (D.int ((10 : Int) ^ (18 : Int).toNat)) else none) = _
      rw [if_pos (by decide)]
      rfl
    have step : ∃ d r' z5, 0 ≤ d ∧ d < b ∧ b_dig [some (.fz (.int c)), some (.fz e1), some (.ol (L.map D.int)), some (.fz (.int r)), some (.fz (.int b)), x5] = some (.nx [some (.fz (.int c)), some (.fz e1), some (.ol ((L ++ [d]).map D.int)), some (.fz (.int r')), some (.fz (.int b)), z5]) := by
      unfold b_dig
      by_cases q : (1000000000000000000 : Int) ≤ c
      · refine ⟨r % b, r / b, x5, Int.emod_nonneg _ (by omega), Int.emod_lt_of_pos _ hb1, ?_⟩
        walk_at "ev"
        rw [pw]
        walk_at "ev"
        rw [decide_eq_true q]
        walk_at "ev"
        rw [d_modP hb1, ap]
        walk_at "ev"
        rw [d_divP ⟨hb1, by omega⟩]
        walk_at "ev"
      · have h1 := d_mulP (mul_ok (i := r) (j := 48271) (by decide))
        have h2 := d_mulP (mul_ok2 (i := 1009) (j := ((L.map D.int).length : Int)) (by decide))
        have hr1 := Int.emod_nonneg (r * 48271 + 1009 * ((L.map D.int).length : Int) + 12345) (b := 2147483647) (by decide)
        have hr2 := Int.emod_lt_of_pos (r * 48271 + 1009 * ((L.map D.int).length : Int) + 12345) (b := 2147483647) (by decide)
        have m1 := d_modP (u := r * 48271 + 1009 * ((L.map D.int).length : Int) + 12345) (v := 2147483647) (by decide)
        generalize (r * 48271 + 1009 * ((L.map D.int).length : Int) + 12345) % 2147483647 = r2 at hr1 hr2 m1
        have h3 := d_mulP (mul_ok (i := r2) (j := r2) ⟨by omega, by omega⟩)
        have m2 := d_modP (u := r2 * r2) (v := 2147483629) (by decide)
        have m3 := d_divP (u := r2 * r2 % 2147483629) (v := 13) (by decide)
        refine ⟨r2 * r2 % 2147483629 / 13 % b, r2, some (.fz (.int (r2 * r2 % 2147483629))), Int.emod_nonneg _ (by omega), Int.emod_lt_of_pos _ hb1, ?_⟩
        walk_at "ev"
        rw [pw]
        walk_at "ev"
        rw [decide_eq_false q]
        walk_at "ev"
        rw [h1, h2]
        walk_at "ev"
        rw [m1]
        walk_at "ev"
        rw [h3]
        walk_at "ev"
        rw [m2]
        walk_at "ev"
        rw [m3]
        walk_at "ev"
        rw [d_modP hb1, ap]
        rfl
    obtain ⟨d, r', z5, d1, d2, step⟩ := step
    obtain ⟨L', r2, y4, y5, hD, e⟩ := ih (L ++ [d]) r' (some (.fz (.int b))) z5 (fun x hx => hb x (List.mem_cons_of_mem _ hx)) (by simp only [List.length_append, List.length_cons, List.length_nil]; omega)
    refine ⟨d :: L', r2, y4, y5, .cons d1 d2 hD, ?_⟩
    rw [List.map_cons, loop_nx (ρ1 := [some (.fz (.int c)), some (.fz e1), some (.ol (L.map D.int)), some (.fz (.int r)), some (.fz (.int b)), x5]) rfl step, e]
    simp
theorem digits_ok {c : Int} {bs : List Int} (hb : ∀ b ∈ bs, 0 < b ∧ b < 1000) (hl : bs.length ≤ 100) : ∃ L, Dig L bs ∧ fn_law_digits [.int c, .lst (bs.map D.int)] = some (.lst (L.map D.int)) := by
  obtain ⟨L', r', y4, y5, hD, e⟩ := dig_loop (c := c) (e1 := .lst (bs.map D.int)) bs [] c none none hb (by simpa using hl)
  refine ⟨L', hD, ?_⟩
  unfold b_dig at e
  unfold fn_law_digits g_law_digits
  walk_at "ev"
  have e' : loopS (bName 4) _ (bs.map D.int) [some (.fz (.int c)), some (.fz (.lst (bs.map D.int))), some (.ol []), some (.fz (.int c)), none, none] = _ := e
  rw [e']
  cases y4 <;> cases y5 <;> rfl
theorem cell_ok (ns : List Int) (k : Nat) : ∃ j, fn_law_cell [.scr ns, .int (k : Int)] = some (.int j) := by
  have hlen : dLen (.scr ns) = some (.int ns.length) := rfl
  unfold fn_law_cell g_law_cell
  by_cases q : k < ns.length
  · have hix : dIx (.scr ns) (.int (k : Int)) = some (.int ns[k]) := by
      show (atI ns (k : Int)).map D.int = _
      rw [atI_nat (List.getElem?_eq_getElem q)]
      rfl
    refine ⟨ns[k], ?_⟩
    walk_at "ev"
    rw [hlen]
    walk_at "ev"
    rw [decide_eq_true (by omega)]
    walk_at "ev"
    rw [hix]
    walk_at "ev"
  · refine ⟨0, ?_⟩
    walk_at "ev"
    rw [hlen]
    walk_at "ev"
    rw [decide_eq_false (by omega)]
    walk_at "ev"
theorem many_ok (ns : List Int) : ∃ m : Nat, m ≤ 20 ∧ fn_law_many [.scr ns, .int 6, .int 20] = some (.int m) := by
  have hlen : dLen (.scr ns) = some (.int ns.length) := rfl
  unfold fn_law_many g_law_many
  cases ns with
  | nil =>
    refine ⟨6, by omega, ?_⟩
    walk_at "ev"
    rw [hlen]
    walk_at "ev"
    rfl
  | cons x ns =>
    have hix : dIx (.scr (x :: ns)) (.int 0) = some (.int x) := by
      show (atI (x :: ns) ((0 : Nat) : Int)).map D.int = _
      rw [atI_nat rfl]
      rfl
    have m1 := d_divP (u := x) (v := 1009) (by decide)
    have m2 := d_modP (u := x / 1009) (v := 5) (by decide)
    by_cases q : x / 1009 % 5 = 1
    · refine ⟨20, by omega, ?_⟩
      walk_at "ev"
      rw [hlen]
      walk_at "ev"
      rw [decide_eq_true (by omega)]
      walk_at "ev"
      rw [hix]
      walk_at "ev"
      rw [m1]
      walk_at "ev"
      rw [m2]
      walk_at "ev"
      rw [decide_eq_true q]
      walk_at "ev"
      rfl
    · refine ⟨6, by omega, ?_⟩
      walk_at "ev"
      rw [hlen]
      walk_at "ev"
      rw [decide_eq_true (by omega)]
      walk_at "ev"
      rw [hix]
      walk_at "ev"
      rw [m1]
      walk_at "ev"
      rw [m2]
      walk_at "ev"
      rw [decide_eq_false q]
      walk_at "ev"
      rfl
/-! a call -/
def kinds : List D := [.str "put", .str "put", .str "add", .str "change", .str "take", .str "take", .str "look"]
def later : List D := [.str "change", .str "take", .str "look"]
theorem in_p : dIn (.str "put") (.tup later) = some (.bl false) := by
  have h : decide (Fs.str ("put" : Str) ∈ [Fs.str "change", Fs.str "take", Fs.str "look"]) = false := by decide +kernel
  show some (D.bl (decide (Fs.str ("put" : Str) ∈ [Fs.str "change", Fs.str "take", Fs.str "look"]))) = _
  rw [h]
theorem in_a : dIn (.str "add") (.tup later) = some (.bl false) := by
  have h : decide (Fs.str ("add" : Str) ∈ [Fs.str "change", Fs.str "take", Fs.str "look"]) = false := by decide +kernel
  show some (D.bl (decide (Fs.str ("add" : Str) ∈ [Fs.str "change", Fs.str "take", Fs.str "look"]))) = _
  rw [h]
theorem in_c : dIn (.str "change") (.tup later) = some (.bl true) := by
  have h : decide (Fs.str ("change" : Str) ∈ [Fs.str "change", Fs.str "take", Fs.str "look"]) = true := by decide +kernel
  show some (D.bl (decide (Fs.str ("change" : Str) ∈ [Fs.str "change", Fs.str "take", Fs.str "look"]))) = _
  rw [h]
theorem in_t : dIn (.str "take") (.tup later) = some (.bl true) := by
  have h : decide (Fs.str ("take" : Str) ∈ [Fs.str "change", Fs.str "take", Fs.str "look"]) = true := by decide +kernel
  show some (D.bl (decide (Fs.str ("take" : Str) ∈ [Fs.str "change", Fs.str "take", Fs.str "look"]))) = _
  rw [h]
theorem in_l : dIn (.str "look") (.tup later) = some (.bl true) := by
  have h : decide (Fs.str ("look" : Str) ∈ [Fs.str "change", Fs.str "take", Fs.str "look"]) = true := by decide +kernel
  show some (D.bl (decide (Fs.str ("look" : Str) ∈ [Fs.str "change", Fs.str "take", Fs.str "look"]))) = _
  rw [h]
end K32
end
section
set_option Elab.async false
set_option linter.all false
set_option maxRecDepth 100000
set_option maxHeartbeats 1000000
/-! the law's calls: which they are -/
namespace K32
open PySem PySem.Spec PyProof.Rows L2
local macro_rules | `(tactic| walk_at "ev") => `(tactic| simp only [ev_f2, ev_f1, ev_fC, ev_v0, ev_vs, ev_c0, ev_c1, ev_c2, ev_cs, ev_call, ev_all0, ev_all1, ev_tup, ev_lst, ev_T, ev_andT, ev_orT, ev_notT, ev_and, ev_or, ev_not, ev_if, ev_seq, ev_nx, ev_bk, ev_no, ev_set, ev_M, ev_ret, ev_drop, ev_un, ev_ns1, ev_ns0, ev_sl, ev_o0, ev_o1, ev_neg, ev_ch, ev_fz0, ev_fz1, ev_fz2, ev_fz3, ev_fz4, ev_fz5, ev_st0, ev_sts, fn_0, fn_1, fn_2, fn_3, fn_4, fn_5,
  j_b1, j_b2, j_bL, j_cL, j_mD, j_bT, j_andT, j_andF, j_orF, j_orT, j_not, j_bl, j_aDT, j_aDF, j_oDF, j_oDT, j_ifT, j_ifF, j_seqN, j_seqR, j_seqB, j_set, j_pM, j_ret, j_drop, j_un, j_sl, j_some, j_chT, j_chF, j_chP, j_endR, j_endN, j_nones0, j_nonesS, ix0, ix1, ix2, ix3, ix4, ix5,
  d_lt, d_le, d_gt, d_ge, d_addI, d_sub, d_lenL, d_eqI, d_eqS, d_eqNI, d_eqIN, d_eqNN, d_neI, d_neS, d_neNI, d_neIN, d_neNN, d_isNN, d_isNI, d_isNB, d_isNT, d_isND, d_notNN, d_notNI, d_notNT, d_notND, d_slT, d_neg, d_tupT, d_tupL, d_listL, d_dict, d_intI, d_intB,
  List.length_cons, List.length_nil, Nat.reduceAdd, Nat.reduceSub, if_true, if_false, reduceIte, Bool.not_true, Bool.not_false, decide_true, decide_false, Bool.false_eq_true, tI_len, ev_for, ev_r1, ev_r2, ev_r3, ev_iT, ev_iL, ev_lc, ev_yes, j_for, j_iT, j_iTI, j_iL, isi_tup, isi_tI, isi_int, isi_ib, isi_non, dtup_tI, cut51, cut61, cut62, cut605, cut513, cut624, ixm5, ixm6, d_len2, d_len3, d_len4, d_len5, d_len6, s_ll, s_il, s_ii, s_fl, s_fi, s_li, s_ff, s_lf, s_if, eq_self, gs_0, gs_s, ev_app, ev_put, ev_pop, ev_ownL, ev_ownD, ev_ownC, ev_get2, j_ownL, j_ownC, j_b3, d_get, at_0, at_s, ev_putR, ev_putA, ev_fresh, ev_fld, ev_meth, ev_aM0, ev_aM1, ev_tupM, ev_make, j_fresh, j_fld, j_meth, j_mO, j_aM1, j_aM2, j_tM2, j_make, j_endMR, j_endMN, fnM_0, fnM_1, fnM_2, fnM_4, dr_fr, encS_def, eq_bds, ne_bds, Int.reduceLT, Int.reduceLE, Int.reduceEq, Int.reduceNeg])
local macro_rules | `(tactic| walk_at "evh") => `(tactic| simp only [*, ev_f2, ev_f1, ev_fC, ev_v0, ev_vs, ev_c0, ev_c1, ev_c2, ev_cs, ev_call, ev_all0, ev_all1, ev_tup, ev_lst, ev_T, ev_andT, ev_orT, ev_notT, ev_and, ev_or, ev_not, ev_if, ev_seq, ev_nx, ev_bk, ev_no, ev_set, ev_M, ev_ret, ev_drop, ev_un, ev_ns1, ev_ns0, ev_sl, ev_o0, ev_o1, ev_neg, ev_ch, ev_fz0, ev_fz1, ev_fz2, ev_fz3, ev_fz4, ev_fz5, ev_st0, ev_sts, fn_0, fn_1, fn_2, fn_3, fn_4, fn_5,
  j_b1, j_b2, j_bL, j_cL, j_mD, j_bT, j_andT, j_andF, j_orF, j_orT, j_not, j_bl, j_aDT, j_aDF, j_oDF, j_oDT, j_ifT, j_ifF, j_seqN, j_seqR, j_seqB, j_set, j_pM, j_ret, j_drop, j_un, j_sl, j_some, j_chT, j_chF, j_chP, j_endR, j_endN, j_nones0, j_nonesS, ix0, ix1, ix2, ix3, ix4, ix5,
  d_lt, d_le, d_gt, d_ge, d_addI, d_sub, d_lenL, d_eqI, d_eqS, d_eqNI, d_eqIN, d_eqNN, d_neI, d_neS, d_neNI, d_neIN, d_neNN, d_isNN, d_isNI, d_isNB, d_isNT, d_isND, d_notNN, d_notNI, d_notNT, d_notND, d_slT, d_neg, d_tupT, d_tupL, d_listL, d_dict, d_intI, d_intB,
  List.length_cons, List.length_nil, Nat.reduceAdd, Nat.reduceSub, if_true, if_false, reduceIte, Bool.not_true, Bool.not_false, decide_true, decide_false, Bool.false_eq_true, tI_len, ev_for, ev_r1, ev_r2, ev_r3, ev_iT, ev_iL, ev_lc, ev_yes, j_for, j_iT, j_iTI, j_iL, isi_tup, isi_tI, isi_int, isi_ib, isi_non, dtup_tI, cut51, cut61, cut62, cut605, cut513, cut624, ixm5, ixm6, d_len2, d_len3, d_len4, d_len5, d_len6, s_ll, s_il, s_ii, s_fl, s_fi, s_li, s_ff, s_lf, s_if, eq_self, gs_0, gs_s, ev_app, ev_put, ev_pop, ev_ownL, ev_ownD, ev_ownC, ev_get2, j_ownL, j_ownC, j_b3, d_get, at_0, at_s, ev_putR, ev_putA, ev_fresh, ev_fld, ev_meth, ev_aM0, ev_aM1, ev_tupM, ev_make, j_fresh, j_fld, j_meth, j_mO, j_aM1, j_aM2, j_tM2, j_make, j_endMR, j_endMN, fnM_0, fnM_1, fnM_2, fnM_4, dr_fr, encS_def, eq_bds, ne_bds, Int.reduceLT, Int.reduceLE, Int.reduceEq, Int.reduceNeg])

theorem ixL {ds : List D} {i : Int} : dIx (.lst ds) (.int i) = dIx (.tup ds) (.int i) := rfl
theorem eq_empty (l : List Int) : dEq (.lst (l.map D.int)) (.lst []) = some (.bl (decide (l = []))) := by
  cases l with
  | nil =>
    show some (D.bl (decide (([] : List Ft) = []))) = _
    rw [decide_eq_true rfl, decide_eq_true rfl]
  | cons x l =>
    obtain ⟨fs, e⟩ := flats_ints l
    have e2 : ∃ f, flats ((x :: l).map D.int) = some (f :: fs) := by
      rw [List.map_cons]
      unfold flats
      rw [e]
      exact ⟨_, rfl⟩
    obtain ⟨f, e2⟩ := e2
    show (eqB (.lst ((x :: l).map D.int)) (.lst [])).map D.bl = _
    have e3 : eqB (.lst ((x :: l).map D.int)) (.lst []) = some false := by
      show (flats ((x :: l).map D.int)).bind (fun fa => (flats []).bind fun fc => some (decide (fa = fc))) = _
      rw [e2]
      show some (decide (f :: fs = [])) = _
      rw [decide_eq_false (by simp)]
    rw [e3, decide_eq_false (by simp)]
    rfl
theorem ne_empty (l : List Int) : dNe (.lst (l.map D.int)) (.lst []) = some (.bl (!decide (l = []))) := by
  have h := eq_empty l
  unfold dEq at h
  unfold dNe
  obtain ⟨k, h1, h2⟩ := Option.map_eq_some_iff.mp h
  injection h2 with h2
  rw [h1, ← h2]
  rfl
def c_adj : En → Option Bool := (fAndT (fT (f2 dGt (f2 dIx (fVar 3) (fC (.int 5))) (fC (.int 0)))) (fAndT (fT (f2 dIn (fVar 5) (fTup [(fC (.str "change")), (fC (.str "take")), (fC (.str "look"))]))) (fT (f2 dNe (fVar 6) (fLst [])))))
def s_adj : FS := (gSet 4 (fM (f2 dIx (fVar 6) (f2 dMod (f2 dIx (fVar 3) (fC (.int 1))) (f1 dLen (fVar 6))))))
theorem adj_ok {d0 d1 d2 d3 d4 d5 k0 : Int} {w : Str} {fl : Bool} (hw : dIn (.str w) (.tup later) = some (.bl fl)) {a b c : D} {keys : List Int} {x : Option Sl} :
    ∃ key, gIf c_adj s_adj gNx [some (.fz a), some (.fz b), some (.fz c), some (.fz (.lst [.int d0, .int d1, .int d2, .int d3, .int d4, .int d5])), some (.fz (.int k0)), some (.fz (.str w)), some (.fz (.lst (keys.map D.int))), x] = some (.nx [some (.fz a), some (.fz b), some (.fz c), some (.fz (.lst [.int d0, .int d1, .int d2, .int d3, .int d4, .int d5])), some (.fz (.int key)), some (.fz (.str w)), some (.fz (.lst (keys.map D.int))), x]) := by
  have i5 : dIx (.lst [.int d0, .int d1, .int d2, .int d3, .int d4, .int d5]) (.int 5) = some (.int d5) := ix5
  have i1 : dIx (.lst [.int d0, .int d1, .int d2, .int d3, .int d4, .int d5]) (.int 1) = some (.int d1) := ix1
  have ne := ne_empty keys
  have hw' : dIn (.str w) (.tup [.str "change", .str "take", .str "look"]) = some (.bl fl) := hw
  by_cases q5 : 0 < d5
  · cases fl with
    | false =>
      refine ⟨k0, ?_⟩
      unfold c_adj s_adj
      walk_at "ev"
      rw [i5]
      walk_at "ev"
      rw [decide_eq_true q5]
      walk_at "ev"
      rw [hw']
      walk_at "ev"
    | true =>
      by_cases qk : keys = []
      · refine ⟨k0, ?_⟩
        rw [decide_eq_true qk] at ne
        unfold c_adj s_adj
        walk_at "ev"
        rw [i5]
        walk_at "ev"
        rw [decide_eq_true q5]
        walk_at "ev"
        rw [hw']
        walk_at "ev"
        rw [ne]
        walk_at "ev"
      · rw [decide_eq_false qk] at ne
        have hlen : 0 < keys.length := List.length_pos_iff.mpr qk
        have hm := d_modP (u := d1) (v := ((keys.map D.int).length : Nat)) (by rw [List.length_map]; omega)
        have h1 := Int.emod_nonneg d1 (b := ((keys.map D.int).length : Int)) (by rw [List.length_map]; omega)
        have h2 := Int.emod_lt_of_pos d1 (b := ((keys.map D.int).length : Int)) (by rw [List.length_map]; omega)
        obtain ⟨n, hn⟩ : ∃ n : Nat, d1 % ((keys.map D.int).length : Int) = n := ⟨(d1 % ((keys.map D.int).length : Int)).toNat, by omega⟩
        rw [hn] at hm h2
        have h3 : n < keys.length := by rw [List.length_map] at h2; omega
        have hix : dIx (.lst (keys.map D.int)) (.int (n : Int)) = some (.int keys[n]) := by
          show atI _ (n : Int) = _
          exact atI_nat (by rw [List.getElem?_map, List.getElem?_eq_getElem h3]; rfl)
        refine ⟨keys[n], ?_⟩
        unfold c_adj s_adj
        walk_at "ev"
        rw [i5]
        walk_at "ev"
        rw [decide_eq_true q5]
        walk_at "ev"
        rw [hw']
        walk_at "ev"
        rw [ne]
        walk_at "ev"
        rw [i1]
        walk_at "ev"
        rw [hm]
        walk_at "ev"
        rw [hix]
        walk_at "ev"
  · refine ⟨k0, ?_⟩
    unfold c_adj s_adj
    walk_at "ev"
    rw [i5]
    walk_at "ev"
    rw [decide_eq_false q5]
    walk_at "ev"
def s_fin : FS := (gSeq (gIf (fOrT (fT (f2 dEq (fVar 5) (fC (.str "put")))) (fT (f2 dEq (fVar 5) (fC (.str "add"))))) (gRet (fM (fTup [(fVar 5), (fVar 4), (f2 dIx (fVar 3) (fC (.int 2)))]))) gNx)
  (gSeq (gIf (fT (f2 dEq (fVar 5) (fC (.str "change")))) (gSeq (gSet 7 (fM (f2 dIx (fVar 3) (fC (.int 2)))))
  (gSeq (gIf (fT (f2 dGt (f2 dIx (fVar 3) (fC (.int 4))) (fC (.int 0)))) (gSet 7 (fM (fGet2 (fVar 2) (fVar 4) (f2 dIx (fVar 3) (fC (.int 2)))))) gNx)
  (gRet (fM (fTup [(fVar 5), (fVar 4), (fVar 7), (f2 dIx (fVar 3) (fC (.int 3)))]))))) gNx)
  (gRet (fM (fTup [(fVar 5), (fVar 4)])))))
theorem fin_ok {d0 d1 d2 d3 d4 d5 key : Int} {w : Str} (hw : w = "put" ∨ w = "add" ∨ w = "change" ∨ w = "take" ∨ w = "look") {a b c : D} {T : List (Int × Int)} :
    ∃ cl, endO (s_fin [some (.fz a), some (.fz b), some (.fz (.dic (encT T))), some (.fz (.lst [.int d0, .int d1, .int d2, .int d3, .int d4, .int d5])), some (.fz (.int key)), some (.fz (.str w)), some (.fz c), none]) = some (encC cl) := by
  have i2 : dIx (.lst [.int d0, .int d1, .int d2, .int d3, .int d4, .int d5]) (.int 2) = some (.int d2) := ix2
  have i3 : dIx (.lst [.int d0, .int d1, .int d2, .int d3, .int d4, .int d5]) (.int 3) = some (.int d3) := ix3
  have i4 : dIx (.lst [.int d0, .int d1, .int d2, .int d3, .int d4, .int d5]) (.int 4) = some (.int d4) := ix4
  unfold s_fin
  rcases hw with rfl | rfl | rfl | rfl | rfl
  · refine ⟨.put key d2, ?_⟩
    rw [encC_put]
    walk_at "ev"
    try simp only [t_pp, t_pa, t_pc]
    try walk_at "ev"
    rw [i2]
    walk_at "ev"
  · refine ⟨.add key d2, ?_⟩
    rw [encC_add]
    walk_at "ev"
    try simp only [t_ap, t_aa]
    try walk_at "ev"
    try simp only [t_ap, t_aa]
    try walk_at "ev"
    rw [i2]
    walk_at "ev"
  · by_cases q : 0 < d4
    · refine ⟨.chg key ((tlk T key).getD d2) d3, ?_⟩
      have hg : ((dLook (encT T) key).getD (.int d2)) = .int ((tlk T key).getD d2) := by
        rw [tlk_enc]
        cases tlk T key <;> rfl
      rw [encC_chg]
      walk_at "ev"
      try simp only [t_cp, t_ca, t_cc]
      try walk_at "ev"
      try simp only [t_cp, t_ca, t_cc]
      try walk_at "ev"
      try simp only [t_cp, t_ca, t_cc]
      try walk_at "ev"
      rw [i2]
      try walk_at "ev"
      rw [i4]
      walk_at "ev"
      rw [decide_eq_true q]
      walk_at "ev"
      try rw [i2]
      try walk_at "ev"
      rw [hg]
      try walk_at "ev"
      rw [i3]
      walk_at "ev"
    · refine ⟨.chg key d2 d3, ?_⟩
      rw [encC_chg]
      walk_at "ev"
      try simp only [t_cp, t_ca, t_cc]
      try walk_at "ev"
      try simp only [t_cp, t_ca, t_cc]
      try walk_at "ev"
      try simp only [t_cp, t_ca, t_cc]
      try walk_at "ev"
      rw [i2]
      try walk_at "ev"
      rw [i4]
      walk_at "ev"
      rw [decide_eq_false q]
      walk_at "ev"
      rw [i3]
      walk_at "ev"
  · refine ⟨.take key, ?_⟩
    rw [encC_take]
    walk_at "ev"
    try simp only [t_tp, t_ta, t_tc]
    try walk_at "ev"
    try simp only [t_tp, t_ta, t_tc]
    try walk_at "ev"
    try simp only [t_tp, t_ta, t_tc]
    try walk_at "ev"
  · refine ⟨.look key, ?_⟩
    rw [encC_look]
    walk_at "ev"
    try simp only [t_lp, t_la, t_lc]
    try walk_at "ev"
    try simp only [t_lp, t_la, t_lc]
    try walk_at "ev"
    try simp only [t_lp, t_la, t_lc]
    try walk_at "ev"
theorem call_ok {x : Int} {T : List (Int × Int)} (hT : T.length < 64) : ∃ c, fn_law_call [.int x, .int 130, .dic (encT T)] = some (encC c) := by
  obtain ⟨L, hD, ed⟩ := digits_ok (c := x) (bs := [7, 130, 9, 9, 4, 3]) (by decide) (by decide)
  obtain ⟨d0, d1, d2, d3, d4, d5, rfl, h1, h2⟩ : ∃ d0 d1 d2 d3 d4 d5, L = [d0, d1, d2, d3, d4, d5] ∧ 0 ≤ d0 ∧ d0 < 7 := by
    cases hD with
    | cons a1 a2 t => cases t with
      | cons _ _ t => cases t with
        | cons _ _ t => cases t with
          | cons _ _ t => cases t with
            | cons _ _ t => cases t with
              | cons _ _ t => cases t; exact ⟨_, _, _, _, _, _, rfl, a1, a2⟩
  have ed : fn_law_digits [.int x, .lst [.int 7, .int 130, .int 9, .int 9, .int 4, .int 3]] = some (.lst [.int d0, .int d1, .int d2, .int d3, .int d4, .int d5]) := ed
  have i0 : dIx (.lst [.int d0, .int d1, .int d2, .int d3, .int d4, .int d5]) (.int 0) = some (.int d0) := ix0
  have i1 : dIx (.lst [.int d0, .int d1, .int d2, .int d3, .int d4, .int d5]) (.int 1) = some (.int d1) := ix1
  have so : dSorted (.dic (encT T)) = some (.lst ((sortI (T.map (·.1))).map D.int)) := by
    show (if (encT T).length < 64 then some (D.lst ((sortI ((encT T).map (·.1))).map D.int)) else none) = _
    rw [if_pos (by unfold encT; rw [List.length_map]; exact hT)]
    unfold encT
    rw [List.map_map]
    rfl
  have dv := d_divP (u := 130) (v := 2) (by decide)
  obtain ⟨w, fl, hk, hw, hin⟩ : ∃ (w : Str) (fl : Bool), dIx (.lst kinds) (.int d0) = some (.str w) ∧ (w = "put" ∨ w = "add" ∨ w = "change" ∨ w = "take" ∨ w = "look") ∧ dIn (.str w) (.tup later) = some (.bl fl) := by
    have hd : d0 = 0 ∨ d0 = 1 ∨ d0 = 2 ∨ d0 = 3 ∨ d0 = 4 ∨ d0 = 5 ∨ d0 = 6 := by omega
    rcases hd with rfl | rfl | rfl | rfl | rfl | rfl | rfl
    · exact ⟨_, _, ix0, .inl rfl, in_p⟩
    · exact ⟨_, _, ix1, .inl rfl, in_p⟩
    · exact ⟨_, _, ix2, .inr (.inl rfl), in_a⟩
    · exact ⟨_, _, ix3, .inr (.inr (.inl rfl)), in_c⟩
    · exact ⟨_, _, ix4, .inr (.inr (.inr (.inl rfl))), in_t⟩
    · exact ⟨_, _, ix5, .inr (.inr (.inr (.inl rfl))), in_t⟩
    · refine ⟨_, _, ?_, .inr (.inr (.inr (.inr rfl))), in_l⟩
      show atI kinds ((6 : Nat) : Int) = _
      exact atI_nat rfl
  have hk : dIx (.lst [.str "put", .str "put", .str "add", .str "change", .str "take", .str "take", .str "look"]) (.int d0) = some (.str w) := hk
  obtain ⟨key, ea⟩ := adj_ok (d0 := d0) (d1 := d1) (d2 := d2) (d3 := d3) (d4 := d4) (d5 := d5) (k0 := d1 - 130 / 2) hin (a := .int x) (b := .int 130) (c := .dic (encT T)) (keys := sortI (T.map (·.1))) (x := none)
  obtain ⟨cl, ef⟩ := fin_ok (d0 := d0) (d1 := d1) (d2 := d2) (d3 := d3) (d4 := d4) (d5 := d5) (key := key) hw (a := .int x) (b := .int 130) (c := .lst ((sortI (T.map (·.1))).map D.int)) (T := T)
  refine ⟨cl, ?_⟩
  unfold fn_law_call
  have eg : g_law_call = (gSeq (gSet 3 (fM (fCall fn_law_digits [(fVar 0), (fLst [(fC (.int 7)), (fVar 1), (fC (.int 9)), (fC (.int 9)), (fC (.int 4)), (fC (.int 3))])])))
    (gSeq (gSet 4 (fM (f2 dSub (f2 dIx (fVar 3) (fC (.int 1))) (f2 dDiv (fVar 1) (fC (.int 2))))))
    (gSeq (gSet 5 (fM (f2 dIx (fLst [(fC (.str "put")), (fC (.str "put")), (fC (.str "add")), (fC (.str "change")), (fC (.str "take")), (fC (.str "take")), (fC (.str "look"))]) (f2 dIx (fVar 3) (fC (.int 0))))))
    (gSeq (gSet 6 (fM (f1 dSorted (fVar 2))))
    (gSeq (gIf c_adj s_adj gNx) s_fin))))) := rfl
  rw [eg]
  generalize hadj : gIf c_adj s_adj gNx = ga at ea ⊢
  generalize hfin : s_fin = gf at ef ⊢
  walk_at "ev"
  rw [ed]
  walk_at "ev"
  rw [i1, dv]
  walk_at "ev"
  rw [i0]
  walk_at "ev"
  rw [hk]
  walk_at "ev"
  rw [so]
  walk_at "ev"
  rw [ea]
  walk_at "ev"
  exact ef
end K32
end
section
set_option Elab.async false
set_option linter.all false
set_option maxRecDepth 100000
set_option maxHeartbeats 1000000
/-! the filled tree; the law's turns -/
namespace K32
open PySem PySem.Spec PyProof.Rows L2
local macro_rules | `(tactic| walk_at "ev") => `(tactic| simp only [ev_f2, ev_f1, ev_fC, ev_v0, ev_vs, ev_c0, ev_c1, ev_c2, ev_cs, ev_call, ev_all0, ev_all1, ev_tup, ev_lst, ev_T, ev_andT, ev_orT, ev_notT, ev_and, ev_or, ev_not, ev_if, ev_seq, ev_nx, ev_bk, ev_no, ev_set, ev_M, ev_ret, ev_drop, ev_un, ev_ns1, ev_ns0, ev_sl, ev_o0, ev_o1, ev_neg, ev_ch, ev_fz0, ev_fz1, ev_fz2, ev_fz3, ev_fz4, ev_fz5, ev_st0, ev_sts, fn_0, fn_1, fn_2, fn_3, fn_4, fn_5,
  j_b1, j_b2, j_bL, j_cL, j_mD, j_bT, j_andT, j_andF, j_orF, j_orT, j_not, j_bl, j_aDT, j_aDF, j_oDF, j_oDT, j_ifT, j_ifF, j_seqN, j_seqR, j_seqB, j_set, j_pM, j_ret, j_drop, j_un, j_sl, j_some, j_chT, j_chF, j_chP, j_endR, j_endN, j_nones0, j_nonesS, ix0, ix1, ix2, ix3, ix4, ix5,
  d_lt, d_le, d_gt, d_ge, d_addI, d_sub, d_lenL, d_eqI, d_eqS, d_eqNI, d_eqIN, d_eqNN, d_neI, d_neS, d_neNI, d_neIN, d_neNN, d_isNN, d_isNI, d_isNB, d_isNT, d_isND, d_notNN, d_notNI, d_notNT, d_notND, d_slT, d_neg, d_tupT, d_tupL, d_listL, d_dict, d_intI, d_intB,
  List.length_cons, List.length_nil, Nat.reduceAdd, Nat.reduceSub, if_true, if_false, reduceIte, Bool.not_true, Bool.not_false, decide_true, decide_false, Bool.false_eq_true, tI_len, ev_for, ev_r1, ev_r2, ev_r3, ev_iT, ev_iL, ev_lc, ev_yes, j_for, j_iT, j_iTI, j_iL, isi_tup, isi_tI, isi_int, isi_ib, isi_non, dtup_tI, cut51, cut61, cut62, cut605, cut513, cut624, ixm5, ixm6, d_len2, d_len3, d_len4, d_len5, d_len6, s_ll, s_il, s_ii, s_fl, s_fi, s_li, s_ff, s_lf, s_if, eq_self, gs_0, gs_s, ev_app, ev_put, ev_pop, ev_ownL, ev_ownD, ev_ownC, ev_get2, j_ownL, j_ownC, j_b3, d_get, at_0, at_s, ev_putR, ev_putA, ev_fresh, ev_fld, ev_meth, ev_aM0, ev_aM1, ev_tupM, ev_make, j_fresh, j_fld, j_meth, j_mO, j_aM1, j_aM2, j_tM2, j_make, j_endMR, j_endMN, fnM_0, fnM_1, fnM_2, fnM_4, dr_fr, encS_def, eq_bds, ne_bds, Int.reduceLT, Int.reduceLE, Int.reduceEq, Int.reduceNeg])
local macro_rules | `(tactic| walk_at "evh") => `(tactic| simp only [*, ev_f2, ev_f1, ev_fC, ev_v0, ev_vs, ev_c0, ev_c1, ev_c2, ev_cs, ev_call, ev_all0, ev_all1, ev_tup, ev_lst, ev_T, ev_andT, ev_orT, ev_notT, ev_and, ev_or, ev_not, ev_if, ev_seq, ev_nx, ev_bk, ev_no, ev_set, ev_M, ev_ret, ev_drop, ev_un, ev_ns1, ev_ns0, ev_sl, ev_o0, ev_o1, ev_neg, ev_ch, ev_fz0, ev_fz1, ev_fz2, ev_fz3, ev_fz4, ev_fz5, ev_st0, ev_sts, fn_0, fn_1, fn_2, fn_3, fn_4, fn_5,
  j_b1, j_b2, j_bL, j_cL, j_mD, j_bT, j_andT, j_andF, j_orF, j_orT, j_not, j_bl, j_aDT, j_aDF, j_oDF, j_oDT, j_ifT, j_ifF, j_seqN, j_seqR, j_seqB, j_set, j_pM, j_ret, j_drop, j_un, j_sl, j_some, j_chT, j_chF, j_chP, j_endR, j_endN, j_nones0, j_nonesS, ix0, ix1, ix2, ix3, ix4, ix5,
  d_lt, d_le, d_gt, d_ge, d_addI, d_sub, d_lenL, d_eqI, d_eqS, d_eqNI, d_eqIN, d_eqNN, d_neI, d_neS, d_neNI, d_neIN, d_neNN, d_isNN, d_isNI, d_isNB, d_isNT, d_isND, d_notNN, d_notNI, d_notNT, d_notND, d_slT, d_neg, d_tupT, d_tupL, d_listL, d_dict, d_intI, d_intB,
  List.length_cons, List.length_nil, Nat.reduceAdd, Nat.reduceSub, if_true, if_false, reduceIte, Bool.not_true, Bool.not_false, decide_true, decide_false, Bool.false_eq_true, tI_len, ev_for, ev_r1, ev_r2, ev_r3, ev_iT, ev_iL, ev_lc, ev_yes, j_for, j_iT, j_iTI, j_iL, isi_tup, isi_tI, isi_int, isi_ib, isi_non, dtup_tI, cut51, cut61, cut62, cut605, cut513, cut624, ixm5, ixm6, d_len2, d_len3, d_len4, d_len5, d_len6, s_ll, s_il, s_ii, s_fl, s_fi, s_li, s_ff, s_lf, s_if, eq_self, gs_0, gs_s, ev_app, ev_put, ev_pop, ev_ownL, ev_ownD, ev_ownC, ev_get2, j_ownL, j_ownC, j_b3, d_get, at_0, at_s, ev_putR, ev_putA, ev_fresh, ev_fld, ev_meth, ev_aM0, ev_aM1, ev_tupM, ev_make, j_fresh, j_fld, j_meth, j_mO, j_aM1, j_aM2, j_tM2, j_make, j_endMR, j_endMN, fnM_0, fnM_1, fnM_2, fnM_4, dr_fr, encS_def, eq_bds, ne_bds, Int.reduceLT, Int.reduceLE, Int.reduceEq, Int.reduceNeg])

theorem u_ac : decide (("answer" : Str) = "change") = false := by decide +kernel
theorem u_cc : decide (("change" : Str) = "change") = true := by decide +kernel
theorem Good.mono {P : List Pg} {T : List (Int × Int)} {n m : Nat} (G : Good P T n) (h : n ≤ m) : Good P T m := { G with len := Nat.le_trans G.len h }
theorem Good.same {P : List Pg} {T : List (Int × Int)} {n : Nat} (G : Good P T n) {c : Cl} (h : eff c (tlk T (keyC c)) = tlk T (keyC c)) : Good P (dueT c T) (n + 1) := by
  have D := due_ok c G.nd
  refine ⟨G.ex, D.nd, fun x => ?_, by have := D.len; have := G.len; omega⟩
  rw [G.agree]
  by_cases q : x.1 = keyC c
  · obtain ⟨k, v⟩ := x
    obtain rfl : k = keyC c := q
    rw [D.own, h, tlk_cnt G.nd]
  · exact (D.oth x q).symm
def P0 : List Pg := [(0, 100, .leaf none none [] [])]
theorem good0 : Good P0 [] 0 := by
  have hm : ∀ e ∈ P0, e = (0, 100, .leaf none none [] []) := fun e he => List.mem_singleton.mp he
  refine ⟨⟨by simp [P0], fun e he => by rw [hm e he]; exact ⟨by decide, by decide⟩, ⟨100, _, List.mem_cons_self, rfl, rfl, rfl⟩, fun e he _ => ?_, fun s => rfl⟩, List.nodup_nil, fun x => rfl, Nat.le_refl _⟩
  rw [hm e he]
  exact ⟨⟨rfl, fun l h e => (by cases e), List.Pairwise.nil, fun k hk => (by cases hk), by simp⟩, by decide +kernel, .inl ⟨rfl, rfl⟩⟩
theorem start_ok : fn_law_start [] = some (.dic (encP P0)) := rfl
def b_fill : FS := (gSeq (gSet 6 (fM (f2 dSub (f2 dMul (f2 dMod (f2 dAdd (f2 dMul (fVar 5) (f2 dAdd (f2 dMul (fC (.int 2)) (f2 dIx (fVar 1) (fC (.int 2)))) (fC (.int 1)))) (f2 dIx (fVar 1) (fC (.int 3)))) (fC (.int 41))) (fC (.int 3))) (fC (.int 60)))))
  (gSeq (gSet 7 (fM (fCall fn_law_planned [(fVar 2), (fTup [(fC (.str "put")), (fVar 6), (fVar 5)])])))
  (gSeq (gIf (fT (f2 dEq (f2 dIx (fVar 7) (fC (.int 0))) (fC (.str "change")))) (gSeq (gSet 2 (fM (fCall fn_law_applied [(fVar 2), (f2 dIx (fVar 7) (fC (.int 2)))])))
  (gIf (fT (f2 dIsN (fVar 2) (fC .non))) (gRet (fM (fTup [(fC .non), (fVar 3)]))) gNx)) gNx)
  (gPut 3 (fVar 6) (fVar 5)))))
theorem fill_eval1 {a e4 pg w : D} {es : List (Int × D)} {d0 d1 d2 d3 k v1 v2 v3 v4 : Int} {x6 x7 : Option Sl} (i2 : dIx (.lst [.int d0, .int d1, .int d2, .int d3]) (.int 2) = some (.int d2)) (i3 : dIx (.lst [.int d0, .int d1, .int d2, .int d3]) (.int 3) = some (.int d3))
    (m1 : dMul (.int 2) (.int d2) = some (.int v1)) (m2 : dMul (.int k) (.int (v1 + 1)) = some (.int v2)) (m3 : dMod (.int (v2 + d3)) (.int 41) = some (.int v3)) (m4 : dMul (.int v3) (.int 3) = some (.int v4))
    (h6 : fn_law_planned [pg, .tup [.str "put", .int (v4 - 60), .int k]] = some (.tup [.str "answer", w])) (hl : es.length < 100000) :
    b_fill [some (.fz a), some (.fz (.lst [.int d0, .int d1, .int d2, .int d3])), some (.fz pg), some (.od es), some (.fz e4), some (.fz (.int k)), x6, x7] = some (.nx [some (.fz a), some (.fz (.lst [.int d0, .int d1, .int d2, .int d3])), some (.fz pg), some (.od (dPut es (v4 - 60) (.int k))), some (.fz e4), some (.fz (.int k)), some (.fz (.int (v4 - 60))), some (.fz (.tup [.str "answer", w]))]) := by
  unfold b_fill
  walk_at "ev"
  rw [i2]
  walk_at "ev"
  rw [m1]
  walk_at "ev"
  rw [m2, i3]
  walk_at "ev"
  rw [m3]
  walk_at "ev"
  rw [m4]
  walk_at "ev"
  rw [h6]
  walk_at "ev"
  rw [u_ac]
  walk_at "ev"
  rw [j_put hl]
  rfl
theorem fill_eval2 {a e4 pg w en : D} {ps : List (Int × D)} {es : List (Int × D)} {d0 d1 d2 d3 k v1 v2 v3 v4 : Int} {x6 x7 : Option Sl} (i2 : dIx (.lst [.int d0, .int d1, .int d2, .int d3]) (.int 2) = some (.int d2)) (i3 : dIx (.lst [.int d0, .int d1, .int d2, .int d3]) (.int 3) = some (.int d3))
    (m1 : dMul (.int 2) (.int d2) = some (.int v1)) (m2 : dMul (.int k) (.int (v1 + 1)) = some (.int v2)) (m3 : dMod (.int (v2 + d3)) (.int 41) = some (.int v3)) (m4 : dMul (.int v3) (.int 3) = some (.int v4))
    (h6 : fn_law_planned [pg, .tup [.str "put", .int (v4 - 60), .int k]] = some (.tup [.str "change", w, en])) (ea : fn_law_applied [pg, en] = some (.dic ps)) (hl : es.length < 100000) :
    b_fill [some (.fz a), some (.fz (.lst [.int d0, .int d1, .int d2, .int d3])), some (.fz pg), some (.od es), some (.fz e4), some (.fz (.int k)), x6, x7] = some (.nx [some (.fz a), some (.fz (.lst [.int d0, .int d1, .int d2, .int d3])), some (.fz (.dic ps)), some (.od (dPut es (v4 - 60) (.int k))), some (.fz e4), some (.fz (.int k)), some (.fz (.int (v4 - 60))), some (.fz (.tup [.str "change", w, en]))]) := by
  unfold b_fill
  walk_at "ev"
  rw [i2]
  walk_at "ev"
  rw [m1]
  walk_at "ev"
  rw [m2, i3]
  walk_at "ev"
  rw [m3]
  walk_at "ev"
  rw [m4]
  walk_at "ev"
  rw [h6]
  walk_at "ev"
  try rw [u_cc]
  try walk_at "ev"
  rw [ea]
  walk_at "ev"
  rw [j_put hl]
  rfl
theorem fill_turn {P : List Pg} {T : List (Int × Int)} {n : Nat} (G : Good P T n) (hn : n ≤ 60) {a e4 : D} {d0 d1 d2 d3 : Int} {k : Nat} (hk : k ≤ 100) {x6 x7 : Option Sl} :
    ∃ P' T' y6 y7, Good P' T' (n + 1) ∧ b_fill [some (.fz a), some (.fz (.lst [.int d0, .int d1, .int d2, .int d3])), some (.fz (.dic (encP P))), some (.od (encT T)), some (.fz e4), some (.fz (.int (k : Int))), x6, x7] = some (.nx [some (.fz a), some (.fz (.lst [.int d0, .int d1, .int d2, .int d3])), some (.fz (.dic (encP P'))), some (.od (encT T')), some (.fz e4), some (.fz (.int (k : Int))), y6, y7]) := by
  have i2 : dIx (.lst [.int d0, .int d1, .int d2, .int d3]) (.int 2) = some (.int d2) := ix2
  have i3 : dIx (.lst [.int d0, .int d1, .int d2, .int d3]) (.int 3) = some (.int d3) := ix3
  obtain ⟨v1, m1⟩ : ∃ v, dMul (.int 2) (.int d2) = some (.int v) := ⟨_, d_mulP (mul_ok2 (i := 2) (j := d2) (by decide))⟩
  obtain ⟨v2, m2⟩ : ∃ v, dMul (.int (k : Int)) (.int (v1 + 1)) = some (.int v) := ⟨_, d_mulP (mul_ok2 (i := (k : Int)) (j := v1 + 1) ⟨by omega, by omega⟩)⟩
  obtain ⟨v3, m3⟩ : ∃ v, dMod (.int (v2 + d3)) (.int 41) = some (.int v) := ⟨_, d_modP (u := v2 + d3) (v := 41) (by decide)⟩
  obtain ⟨v4, m4⟩ : ∃ v, dMul (.int v3) (.int 3) = some (.int v) := ⟨_, d_mulP (mul_ok (i := v3) (j := 3) (by decide))⟩
  obtain ⟨s, told, h1, h2, h3, h4, h5, h6, h7⟩ := G.plan (by omega) (.put (v4 - 60) (k : Int))
  rw [encC_put] at h6
  have hT : (encT T).length < 100000 := by unfold encT; rw [List.length_map]; have := G.len; omega
  have pt : dPut (encT T) (v4 - 60) (.int (k : Int)) = encT (dueT (.put (v4 - 60) (k : Int)) T) := enc_tput
  rcases h7 with ⟨w, rfl, he⟩ | ⟨w, R, fr, r1, rfl, Pl, L⟩
  · have e := fill_eval1 (a := a) (e4 := e4) (d0 := d0) (d1 := d1) (x6 := x6) (x7 := x7) i2 i3 m1 m2 m3 m4 h6 hT
    rw [pt] at e
    exact ⟨_, _, _, _, G.same he, e⟩
  · obtain ⟨P', ea, A⟩ := G.apply (by omega) Pl
    have e := fill_eval2 (a := a) (e4 := e4) (d0 := d0) (d1 := d1) (x6 := x6) (x7 := x7) i2 i3 m1 m2 m3 m4 h6 ea hT
    rw [pt] at e
    exact ⟨_, _, _, _, G.step A h5 L, e⟩
theorem filled_ok (x : Int) : ∃ P T, Good P T 39 ∧ fn_law_filled [.int x] = some (.tup [.dic (encP P), .dic (encT T)]) := by
  obtain ⟨L, hD, ed⟩ := digits_ok (c := x) (bs := [4, 40, 7, 3]) (by decide) (by decide)
  obtain ⟨d0, d1, d2, d3, rfl, h1, h2⟩ : ∃ d0 d1 d2 d3, L = [d0, d1, d2, d3] ∧ 0 ≤ d1 ∧ d1 < 40 := by
    cases hD with
    | cons _ _ t => cases t with
      | cons a1 a2 t => cases t with
        | cons _ _ t => cases t with
          | cons _ _ t => cases t; exact ⟨_, _, _, _, rfl, a1, a2⟩
  have ed : fn_law_digits [.int x, .lst [.int 4, .int 40, .int 7, .int 3]] = some (.lst [.int d0, .int d1, .int d2, .int d3]) := ed
  have i0 : dIx (.lst [.int d0, .int d1, .int d2, .int d3]) (.int 0) = some (.int d0) := ix0
  have i1 : dIx (.lst [.int d0, .int d1, .int d2, .int d3]) (.int 1) = some (.int d1) := ix1
  have m8 := d_modP (u := d1) (v := 8) (by decide)
  have loop : ∀ m : Nat, m ≤ 39 → ∃ P T y5 y6 y7, Good P T m ∧ loopS (bName 5) b_fill (rngD 0 1 m) [some (.fz (.int x)), some (.fz (.lst [.int d0, .int d1, .int d2, .int d3])), some (.fz (.dic (encP P0))), some (.od []), some (.fz (.int (m : Int))), none, none, none] = some (.nx [some (.fz (.int x)), some (.fz (.lst [.int d0, .int d1, .int d2, .int d3])), some (.fz (.dic (encP P))), some (.od (encT T)), some (.fz (.int (m : Int))), y5, y6, y7]) := fun m hm => by
    obtain ⟨ρ', el, P, T, y5, y6, y7, rfl, G⟩ := loop_inv (bi := bName 5) (body := b_fill) (ds := rngD 0 1 m)
      (fun t ρ => ∃ P T y5 y6 y7, ρ = [some (.fz (.int x)), some (.fz (.lst [.int d0, .int d1, .int d2, .int d3])), some (.fz (.dic (encP P))), some (.od (encT T)), some (.fz (.int (m : Int))), y5, y6, y7] ∧ Good P T t)
      (ρ := [some (.fz (.int x)), some (.fz (.lst [.int d0, .int d1, .int d2, .int d3])), some (.fz (.dic (encP P0))), some (.od []), some (.fz (.int (m : Int))), none, none, none]) 0 ⟨P0, [], none, none, none, rfl, good0⟩ (by
        rintro t d ρ hd ⟨P, T, y5, y6, y7, rfl, G⟩
        obtain ⟨hin, rfl⟩ := rngD_get hd
        rw [show 0 + (t : Int) * 1 = (t : Int) by omega]
        obtain ⟨P', T', z6, z7, G', e⟩ := fill_turn G (by omega) (a := .int x) (e4 := .int (m : Int)) (d0 := d0) (d1 := d1) (d2 := d2) (d3 := d3) (k := t) (by omega) (x6 := y6) (x7 := y7)
        exact ⟨_, _, rfl, e, P', T', some (.fz (.int (t : Int))), z6, z7, rfl, G'⟩)
    rw [rngD_length, Nat.zero_add] at G
    exact ⟨P, T, y5, y6, y7, G, el⟩
  have fin : ∀ m : Nat, m ≤ 39 → ((decide (d0 = 0) = true ∧ d1 = m) ∨ (decide (d0 = 0) = false ∧ d1 % 8 = m)) → ∃ P T, Good P T 39 ∧ fn_law_filled [.int x] = some (.tup [.dic (encP P), .dic (encT T)]) := fun m hm hc => by
    obtain ⟨P, T, y5, y6, y7, G, el⟩ := loop m hm
    refine ⟨P, T, G.mono hm, ?_⟩
    have jr := j_r1 (u := (m : Int)) (small_ok (by omega) (by omega))
    rw [show ((m : Int)).toNat = m by omega] at jr
    unfold b_fill at el
    unfold fn_law_filled g_law_filled
    rcases hc with ⟨hb, e⟩ | ⟨hb, e⟩
    · subst e
      walk_at "ev"
      rw [ed]
      walk_at "ev"
      rw [start_ok]
      walk_at "ev"
      rw [i1]
      walk_at "ev"
      rw [m8]
      walk_at "ev"
      rw [i0]
      walk_at "ev"
      rw [hb]
      walk_at "ev"
      rw [i1]
      walk_at "ev"
      rw [jr]
      walk_at "ev"
      rw [el]
      cases y5 <;> cases y6 <;> cases y7 <;> rfl
    · walk_at "ev"
      rw [ed]
      walk_at "ev"
      rw [start_ok]
      walk_at "ev"
      rw [i1]
      walk_at "ev"
      rw [m8]
      walk_at "ev"
      rw [i0]
      walk_at "ev"
      rw [hb]
      walk_at "ev"
      rw [e, jr]
      walk_at "ev"
      rw [el]
      cases y5 <;> cases y6 <;> cases y7 <;> rfl
  by_cases q : d0 = 0
  · exact fin d1.toNat (by omega) (.inl ⟨decide_eq_true q, by omega⟩)
  · exact fin (d1 % 8).toNat (by omega) (.inr ⟨decide_eq_false q, by omega⟩)
/-! pages of plans -/
def realP (R : List Tr) : List Int := (R.filter fun t => decide (0 ≤ t.p)).map (·.p)
theorem pages_of_ok {a : D} {R : List Tr} (hR : R.length ≤ 90) : fn_law_pages_of [toldC a R] = some (.lst ((realP R).map D.int)) := by
  have e : ∀ ρ : En, lcO (some ((R.map entT).map encE)) (fT (f2 dGe (f2 dIx (fVar 1) (fC (.int 0))) (fC (.int 0)))) (f2 dIx (fVar 1) (fC (.int 0))) 1 (some (.fz (.tup [.str "change", a, .lst ((R.map entT).map encE)])) :: none :: ρ) = some (.lst ((realP R).map D.int)) := fun ρ => by
    rw [j_lc (by simp only [List.length_map]; omega), List.map_map, comp_map (encE ∘ entT) (fun t => D.int t.p) (fun t => decide (0 ≤ t.p))]
    · unfold realP
      rw [List.map_map]
      rfl
    · intro t ht
      have : encE (entT t) = .tup [.int t.p, adT t, enc t.new] := rfl
      show fT (f2 dGe (f2 dIx (fVar 1) (fC (.int 0))) (fC (.int 0))) (_ :: some (.fz (encE (entT t))) :: ρ) = _ ∧ (_ → f2 dIx (fVar 1) (fC (.int 0)) (_ :: some (.fz (encE (entT t))) :: ρ) = _)
      rw [this]
      refine ⟨?_, fun _ => ?_⟩
      · walk_at "ev"
      · walk_at "ev"
  unfold fn_law_pages_of g_law_pages_of toldC
  walk_at "ev"
  rw [e]
  walk_at "ev"
theorem in_ints (l : List Int) (p : Int) : dIn (.int p) (.lst (l.map D.int)) = some (.bl (decide (p ∈ l))) := by
  have e : inB (.int p) (.lst (l.map D.int)) = some (decide (p ∈ l)) := by
    show (fl (.int p)).bind (fun f => (fls (l.map D.int)).bind fun fs => some (decide (f ∈ fs))) = _
    rw [fls_ints]
    show some (decide (Fs.int p ∈ l.map Fs.int)) = _
    congr 1
    apply decide_eq_decide.mpr
    rw [List.mem_map]
    constructor
    · rintro ⟨k, hk, e⟩
      cases e
      exact hk
    · exact fun h => ⟨p, h, rfl⟩
  unfold dIn
  rw [e]
  rfl
theorem tlk_other {c : Cl} {T T' : List (Int × Int)} (nd : (T.map (·.1)).Nodup) (Du : DueOk c T T') {k : Int} (h : k ≠ keyC c) : tlk T' k = tlk T k := by
  have key : ∀ v, tlk T' k = some v ↔ tlk T k = some v := fun v => by
    rw [tlk_some Du.nd, tlk_some nd, ← List.count_pos_iff, ← List.count_pos_iff, Du.oth (k, v) h]
  cases h1 : tlk T k with
  | some v => exact (key v).mpr h1
  | none =>
    cases h2 : tlk T' k with
    | none => rfl
    | some v => rw [(key v).mp h2] at h1; cases h1
theorem due_comm {c c' : Cl} {T : List (Int × Int)} (nd : (T.map (·.1)).Nodup) (h : keyC c ≠ keyC c') (x : Int × Int) : (dueT c (dueT c' T)).count x = (dueT c' (dueT c T)).count x := by
  have D1 := due_ok c nd
  have D12 := due_ok c' D1.nd
  have D2 := due_ok c' nd
  have D21 := due_ok c D2.nd
  by_cases q : x.1 = keyC c
  · obtain ⟨k, v⟩ := x
    obtain rfl : k = keyC c := q
    rw [D21.own, D12.oth _ h, D1.own, tlk_other nd D2 h]
  · rw [D21.oth x q]
    by_cases q' : x.1 = keyC c'
    · obtain ⟨k, v⟩ := x
      obtain rfl : k = keyC c' := q'
      rw [D2.own, D12.own, tlk_other nd D1 fun e => h e.symm]
    · rw [D2.oth x q', D12.oth x q', D1.oth x q]
end K32
end
section
set_option Elab.async false
set_option linter.all false
set_option maxRecDepth 100000
set_option maxHeartbeats 400000
/-! the law, whole -/
namespace K32
open PySem PySem.Spec PyProof.Rows L2
local macro_rules | `(tactic| walk_at "ev") => `(tactic| simp only [ev_f2, ev_f1, ev_fC, ev_v0, ev_vs, ev_c0, ev_c1, ev_c2, ev_cs, ev_call, ev_all0, ev_all1, ev_tup, ev_lst, ev_T, ev_andT, ev_orT, ev_notT, ev_and, ev_or, ev_not, ev_if, ev_seq, ev_nx, ev_bk, ev_no, ev_set, ev_M, ev_ret, ev_drop, ev_un, ev_ns1, ev_ns0, ev_sl, ev_o0, ev_o1, ev_neg, ev_ch, ev_fz0, ev_fz1, ev_fz2, ev_fz3, ev_fz4, ev_fz5, ev_st0, ev_sts, fn_0, fn_1, fn_2, fn_3, fn_4, fn_5,
  j_b1, j_b2, j_bL, j_cL, j_mD, j_bT, j_andT, j_andF, j_orF, j_orT, j_not, j_bl, j_aDT, j_aDF, j_oDF, j_oDT, j_ifT, j_ifF, j_seqN, j_seqR, j_seqB, j_set, j_pM, j_ret, j_drop, j_un, j_sl, j_some, j_chT, j_chF, j_chP, j_endR, j_endN, j_nones0, j_nonesS, ix0, ix1, ix2, ix3, ix4, ix5,
  d_lt, d_le, d_gt, d_ge, d_addI, d_sub, d_lenL, d_eqI, d_eqS, d_eqNI, d_eqIN, d_eqNN, d_neI, d_neS, d_neNI, d_neIN, d_neNN, d_isNN, d_isNI, d_isNB, d_isNT, d_isND, d_notNN, d_notNI, d_notNT, d_notND, d_slT, d_neg, d_tupT, d_tupL, d_listL, d_dict, d_intI, d_intB,
  List.length_cons, List.length_nil, Nat.reduceAdd, Nat.reduceSub, if_true, if_false, reduceIte, Bool.not_true, Bool.not_false, decide_true, decide_false, Bool.false_eq_true, tI_len, ev_for, ev_r1, ev_r2, ev_r3, ev_iT, ev_iL, ev_lc, ev_yes, j_for, j_iT, j_iTI, j_iL, isi_tup, isi_tI, isi_int, isi_ib, isi_non, dtup_tI, cut51, cut61, cut62, cut605, cut513, cut624, ixm5, ixm6, d_len2, d_len3, d_len4, d_len5, d_len6, s_ll, s_il, s_ii, s_fl, s_fi, s_li, s_ff, s_lf, s_if, eq_self, gs_0, gs_s, ev_app, ev_put, ev_pop, ev_ownL, ev_ownD, ev_ownC, ev_get2, j_ownL, j_ownC, j_b3, d_get, at_0, at_s, ev_putR, ev_putA, ev_fresh, ev_fld, ev_meth, ev_aM0, ev_aM1, ev_tupM, ev_make, j_fresh, j_fld, j_meth, j_mO, j_aM1, j_aM2, j_tM2, j_make, j_endMR, j_endMN, fnM_0, fnM_1, fnM_2, fnM_4, dr_fr, encS_def, eq_bds, ne_bds, Int.reduceLT, Int.reduceLE, Int.reduceEq, Int.reduceNeg])
local macro_rules | `(tactic| walk_at "evh") => `(tactic| simp only [*, ev_f2, ev_f1, ev_fC, ev_v0, ev_vs, ev_c0, ev_c1, ev_c2, ev_cs, ev_call, ev_all0, ev_all1, ev_tup, ev_lst, ev_T, ev_andT, ev_orT, ev_notT, ev_and, ev_or, ev_not, ev_if, ev_seq, ev_nx, ev_bk, ev_no, ev_set, ev_M, ev_ret, ev_drop, ev_un, ev_ns1, ev_ns0, ev_sl, ev_o0, ev_o1, ev_neg, ev_ch, ev_fz0, ev_fz1, ev_fz2, ev_fz3, ev_fz4, ev_fz5, ev_st0, ev_sts, fn_0, fn_1, fn_2, fn_3, fn_4, fn_5,
  j_b1, j_b2, j_bL, j_cL, j_mD, j_bT, j_andT, j_andF, j_orF, j_orT, j_not, j_bl, j_aDT, j_aDF, j_oDF, j_oDT, j_ifT, j_ifF, j_seqN, j_seqR, j_seqB, j_set, j_pM, j_ret, j_drop, j_un, j_sl, j_some, j_chT, j_chF, j_chP, j_endR, j_endN, j_nones0, j_nonesS, ix0, ix1, ix2, ix3, ix4, ix5,
  d_lt, d_le, d_gt, d_ge, d_addI, d_sub, d_lenL, d_eqI, d_eqS, d_eqNI, d_eqIN, d_eqNN, d_neI, d_neS, d_neNI, d_neIN, d_neNN, d_isNN, d_isNI, d_isNB, d_isNT, d_isND, d_notNN, d_notNI, d_notNT, d_notND, d_slT, d_neg, d_tupT, d_tupL, d_listL, d_dict, d_intI, d_intB,
  List.length_cons, List.length_nil, Nat.reduceAdd, Nat.reduceSub, if_true, if_false, reduceIte, Bool.not_true, Bool.not_false, decide_true, decide_false, Bool.false_eq_true, tI_len, ev_for, ev_r1, ev_r2, ev_r3, ev_iT, ev_iL, ev_lc, ev_yes, j_for, j_iT, j_iTI, j_iL, isi_tup, isi_tI, isi_int, isi_ib, isi_non, dtup_tI, cut51, cut61, cut62, cut605, cut513, cut624, ixm5, ixm6, d_len2, d_len3, d_len4, d_len5, d_len6, s_ll, s_il, s_ii, s_fl, s_fi, s_li, s_ff, s_lf, s_if, eq_self, gs_0, gs_s, ev_app, ev_put, ev_pop, ev_ownL, ev_ownD, ev_ownC, ev_get2, j_ownL, j_ownC, j_b3, d_get, at_0, at_s, ev_putR, ev_putA, ev_fresh, ev_fld, ev_meth, ev_aM0, ev_aM1, ev_tupM, ev_make, j_fresh, j_fld, j_meth, j_mO, j_aM1, j_aM2, j_tM2, j_make, j_endMR, j_endMN, fnM_0, fnM_1, fnM_2, fnM_4, dr_fr, encS_def, eq_bds, ne_bds, Int.reduceLT, Int.reduceLE, Int.reduceEq, Int.reduceNeg])

def gB : FS := (gIf (fAndT (fT (f2 dEq (f2 dIx (fVar 6) (fC (.int 0))) (fC (.str "change")))) (fT (f2 dEq (f2 dIx (fVar 7) (fC (.int 0))) (fC (.str "change"))))) (gSeq (gSet 8 (fM (fLc (iL (fCall fn_law_pages_of [(fVar 6)])) (fT (f2 dIn (fVar 9) (fCall fn_law_pages_of [(fVar 7)]))) (fVar 9) 9)))
  (gSeq (gSet 10 (fM (f2 dIx (fCall fn_law_due [(f2 dIx (fCall fn_law_due [(fVar 2), (fVar 4)]) (fC (.int 1))), (fVar 5)]) (fC (.int 1)))))
  (gIf (fT (f2 dEq (fVar 8) (fLst []))) (gIf (fOrT (fNotT (fT (fCall fn_law_both [(fVar 1), (fVar 6), (fVar 7), (fVar 10)]))) (fNotT (fT (fCall fn_law_both [(fVar 1), (fVar 7), (fVar 6), (fVar 10)])))) (gRet (fM (fC (.bl false)))) gNx) (gIf (fOrT (fNotT (fT (fCall fn_law_alone [(fVar 1), (fVar 6), (fVar 7)]))) (fNotT (fT (fCall fn_law_alone [(fVar 1), (fVar 7), (fVar 6)])))) (gRet (fM (fC (.bl false)))) gNx)))) gNx)
def gC' : FS := (gIf (fT (f2 dEq (f2 dIx (fVar 6) (fC (.int 0))) (fC (.str "change")))) (gSeq (gSet 1 (fM (fCall fn_law_applied [(fVar 1), (f2 dIx (fVar 6) (fC (.int 2)))])))
  (gSet 2 (fM (f2 dIx (fCall fn_law_due [(fVar 2), (fVar 4)]) (fC (.int 1)))))) gNx)
def b_law : FS := (gSeq (gSet 4 (fM (fCall fn_law_call [(f2 dAdd (fCall fn_law_cell [(fVar 0), (fVar 3)]) (fVar 3)), (fC (.int 130)), (fVar 2)])))
  (gSeq (gSet 5 (fM (fCall fn_law_call [(f2 dAdd (f2 dAdd (f2 dDiv (fCall fn_law_cell [(fVar 0), (fVar 3)]) (fC (.int 7))) (f2 dMul (fC (.int 31)) (fVar 3))) (fC (.int 5))), (fC (.int 130)), (fVar 2)])))
  (gSeq (gSet 6 (fM (fCall fn_law_planned [(fVar 1), (fVar 4)])))
  (gSeq (gSet 7 (fM (fCall fn_law_planned [(fVar 1), (fVar 5)])))
  (gSeq gB gC')))))
section
variable {s pg tb c c' t1 t2 : D} {x4 x5 x6 x7 x8 x9 x10 : Option Sl}
theorem evA {j k v1 v2 : Int} (hj : fn_law_cell [s, .int k] = some (.int j)) (m7 : dDiv (.int j) (.int 7) = some (.int v1)) (m31 : dMul (.int 31) (.int k) = some (.int v2))
    (h1 : fn_law_call [.int (j + k), .int 130, tb] = some c) (h2 : fn_law_call [.int (v1 + v2 + 5), .int 130, tb] = some c') (h3 : fn_law_planned [pg, c] = some t1) (h4 : fn_law_planned [pg, c'] = some t2) :
    b_law [some (.fz s), some (.fz pg), some (.fz tb), some (.fz (.int k)), x4, x5, x6, x7, x8, x9, x10] = gSeq gB gC' [some (.fz s), some (.fz pg), some (.fz tb), some (.fz (.int k)), some (.fz c), some (.fz c'), some (.fz t1), some (.fz t2), x8, x9, x10] := by
  unfold b_law
  generalize gSeq gB gC' = rest
  walk_at "ev"
  rw [hj]
  walk_at "ev"
  rw [h1]
  walk_at "ev"
  rw [hj]
  walk_at "ev"
  rw [m7, m31]
  walk_at "ev"
  rw [h2]
  walk_at "ev"
  rw [h3]
  walk_at "ev"
  rw [h4]
  walk_at "ev"
theorem evB_no1 {k : D} {w : D} : gB [some (.fz s), some (.fz pg), some (.fz tb), some (.fz k), some (.fz c), some (.fz c'), some (.fz (.tup [.str "answer", w])), some (.fz t2), x8, x9, x10] = some (.nx [some (.fz s), some (.fz pg), some (.fz tb), some (.fz k), some (.fz c), some (.fz c'), some (.fz (.tup [.str "answer", w])), some (.fz t2), x8, x9, x10]) := by
  unfold gB
  walk_at "ev"
  rw [u_ac]
  walk_at "ev"
theorem evB_no2 {k : D} {w w2 e2 : D} : gB [some (.fz s), some (.fz pg), some (.fz tb), some (.fz k), some (.fz c), some (.fz c'), some (.fz (.tup [.str "change", w2, e2])), some (.fz (.tup [.str "answer", w])), x8, x9, x10] = some (.nx [some (.fz s), some (.fz pg), some (.fz tb), some (.fz k), some (.fz c), some (.fz c'), some (.fz (.tup [.str "change", w2, e2])), some (.fz (.tup [.str "answer", w])), x8, x9, x10]) := by
  unfold gB
  walk_at "ev"
  try rw [u_cc]
  try walk_at "ev"
  rw [u_ac]
  walk_at "ev"
theorem evC_no {k : D} {w : D} : gC' [some (.fz s), some (.fz pg), some (.fz tb), some (.fz k), some (.fz c), some (.fz c'), some (.fz (.tup [.str "answer", w])), some (.fz t2), x8, x9, x10] = some (.nx [some (.fz s), some (.fz pg), some (.fz tb), some (.fz k), some (.fz c), some (.fz c'), some (.fz (.tup [.str "answer", w])), some (.fz t2), x8, x9, x10]) := by
  unfold gC'
  walk_at "ev"
  rw [u_ac]
  walk_at "ev"
theorem evC_yes {k w e1 a tb' pg' : D} (ea : fn_law_applied [pg, e1] = some pg') (ed : fn_law_due [tb, c] = some (.tup [a, tb'])) : gC' [some (.fz s), some (.fz pg), some (.fz tb), some (.fz k), some (.fz c), some (.fz c'), some (.fz (.tup [.str "change", w, e1])), some (.fz t2), x8, x9, x10] = some (.nx [some (.fz s), some (.fz pg'), some (.fz tb'), some (.fz k), some (.fz c), some (.fz c'), some (.fz (.tup [.str "change", w, e1])), some (.fz t2), x8, x9, x10]) := by
  unfold gC'
  walk_at "ev"
  try rw [u_cc]
  try walk_at "ev"
  rw [ea]
  walk_at "ev"
  rw [ed]
  walk_at "ev"
theorem evB_both {k w e1 w2 e2 a a2 tb' tb2 : D} {LA LB : List Int} (hl : LA.length ≤ 1000)
    (p1 : fn_law_pages_of [.tup [.str "change", w, e1]] = some (.lst (LA.map D.int))) (p2 : fn_law_pages_of [.tup [.str "change", w2, e2]] = some (.lst (LB.map D.int)))
    (d1 : fn_law_due [tb, c] = some (.tup [a, tb'])) (d2 : fn_law_due [tb', c'] = some (.tup [a2, tb2]))
    (h : (LA.filter (fun p => decide (p ∈ LB)) = [] ∧ fn_law_both [pg, .tup [.str "change", w, e1], .tup [.str "change", w2, e2], tb2] = some (.bl true) ∧ fn_law_both [pg, .tup [.str "change", w2, e2], .tup [.str "change", w, e1], tb2] = some (.bl true)) ∨
      (LA.filter (fun p => decide (p ∈ LB)) ≠ [] ∧ fn_law_alone [pg, .tup [.str "change", w, e1], .tup [.str "change", w2, e2]] = some (.bl true) ∧ fn_law_alone [pg, .tup [.str "change", w2, e2], .tup [.str "change", w, e1]] = some (.bl true))) :
    ∃ y8 y10, gB [some (.fz s), some (.fz pg), some (.fz tb), some (.fz k), some (.fz c), some (.fz c'), some (.fz (.tup [.str "change", w, e1])), some (.fz (.tup [.str "change", w2, e2])), x8, x9, x10] = some (.nx [some (.fz s), some (.fz pg), some (.fz tb), some (.fz k), some (.fz c), some (.fz c'), some (.fz (.tup [.str "change", w, e1])), some (.fz (.tup [.str "change", w2, e2])), y8, x9, y10]) := by
  refine ⟨some (.fz (.lst ((LA.filter (fun p => decide (p ∈ LB))).map D.int))), some (.fz tb2), ?_⟩
  have lc : lcO (some (LA.map D.int)) (fT (f2 dIn (fVar 9) (fCall fn_law_pages_of [(fVar 7)]))) (fVar 9) 9 [some (.fz s), some (.fz pg), some (.fz tb), some (.fz k), some (.fz c), some (.fz c'), some (.fz (.tup [.str "change", w, e1])), some (.fz (.tup [.str "change", w2, e2])), x8, x9, x10] = some (.lst ((LA.filter (fun p => decide (p ∈ LB))).map D.int)) := by
    rw [j_lc (by rw [List.length_map]; omega), comp_map D.int D.int (fun p => decide (p ∈ LB)) fun p hp => ⟨by
      have hin := in_ints LB p
      walk_at "ev"
      rw [p2]
      simp only [j_b2, hin]
      rfl, fun _ => rfl⟩]
    rfl
  have em := eq_empty (LA.filter (fun p => decide (p ∈ LB)))
  unfold gB
  walk_at "ev"
  try rw [u_cc]
  try walk_at "ev"
  try rw [u_cc]
  try walk_at "ev"
  rw [p1]
  walk_at "ev"
  rw [lc]
  walk_at "ev"
  rw [d1]
  walk_at "ev"
  rw [d2]
  walk_at "ev"
  rcases h with ⟨hz, b1, b2⟩ | ⟨hz, b1, b2⟩
  · rw [decide_eq_true hz] at em
    rw [em]
    walk_at "ev"
    rw [b1]
    walk_at "ev"
    rw [b2]
    walk_at "ev"
  · rw [decide_eq_false hz] at em
    rw [em]
    walk_at "ev"
    rw [b1]
    walk_at "ev"
    rw [b2]
    walk_at "ev"
end
theorem seq_nx {g g' : FS} {ρ ρ' : En} (h : g ρ = some (.nx ρ')) : gSeq g g' ρ = g' ρ' := by rw [ev_seq, h]; rfl
theorem realP_mem {R : List Tr} {p : Int} : p ∈ realP R ↔ ∃ t ∈ R, 0 ≤ t.p ∧ t.p = p := by
  unfold realP
  rw [List.mem_map]
  constructor
  · rintro ⟨t, ht, rfl⟩
    obtain ⟨h1, h2⟩ := List.mem_filter.mp ht
    exact ⟨t, h1, of_decide_eq_true h2, rfl⟩
  · rintro ⟨t, h1, h2, rfl⟩
    exact ⟨t, List.mem_filter.mpr ⟨h1, decide_eq_true h2⟩, rfl⟩
theorem realP_len {R : List Tr} (h : R.length ≤ 90) : (realP R).length ≤ 1000 := by
  unfold realP
  rw [List.length_map]
  have := List.length_filter_le (fun t : Tr => decide (0 ≤ t.p)) R
  omega
theorem law_turn {P : List Pg} {T : List (Int × Int)} {n : Nat} (G : Good P T n) (hn : n ≤ 60) (ns : List Int) (k : Nat) {x4 x5 x6 x7 x8 x9 x10 : Option Sl} :
    ∃ P' T' y4 y5 y6 y7 y8 y10, Good P' T' (n + 1) ∧ b_law [some (.fz (.scr ns)), some (.fz (.dic (encP P))), some (.fz (.dic (encT T))), some (.fz (.int (k : Int))), x4, x5, x6, x7, x8, x9, x10] = some (.nx [some (.fz (.scr ns)), some (.fz (.dic (encP P'))), some (.fz (.dic (encT T'))), some (.fz (.int (k : Int))), y4, y5, y6, y7, y8, x9, y10]) := by
  have hTl := G.len
  obtain ⟨j, hj⟩ := cell_ok ns k
  obtain ⟨v1, m7⟩ : ∃ v, dDiv (.int j) (.int 7) = some (.int v) := ⟨_, d_divP (by decide)⟩
  obtain ⟨v2, m31⟩ : ∃ v, dMul (.int 31) (.int (k : Int)) = some (.int v) := ⟨_, d_mulP (mul_ok2 (by decide))⟩
  obtain ⟨c, h1⟩ := call_ok (x := j + (k : Int)) (T := T) (by omega)
  obtain ⟨c', h2⟩ := call_ok (x := v1 + v2 + 5) (T := T) (by omega)
  obtain ⟨s, t1, q1, q2, q3, q4, q5, q6, q7⟩ := G.plan (by omega) c
  obtain ⟨s', t2, r1, r2, r3, r4, r5, r6, r7⟩ := G.plan (by omega) c'
  have eA := fun x8 x9 x10 => evA (x4 := x4) (x5 := x5) (x6 := x6) (x7 := x7) (x8 := x8) (x9 := x9) (x10 := x10) hj m7 m31 h1 h2 q6 r6
  obtain ⟨a1, d1⟩ := law_due_ok c (T := T) (by omega)
  have D1 := due_ok c G.nd
  have D12 := due_ok c' D1.nd
  obtain ⟨a2, d2⟩ := law_due_ok c' (T := dueT c T) (by have := D1.len; omega)
  rcases q7 with ⟨w, rfl, _⟩ | ⟨w, R, fr, ra, rfl, Pl, L⟩
  · refine ⟨P, T, some (.fz (encC c)), some (.fz (encC c')), some (.fz (.tup [.str "answer", w])), some (.fz t2), x8, x10, G.mono (by omega), ?_⟩
    rw [eA, seq_nx evB_no1]
    exact evC_no
  · obtain ⟨P', ea, A⟩ := G.apply (by omega) Pl
    have G' := G.step A q5 L
    rcases r7 with ⟨w2, rfl, _⟩ | ⟨w2, R', fr', ra', rfl, Pl', L'⟩
    · refine ⟨P', dueT c T, some (.fz (encC c)), some (.fz (encC c')), some (.fz (.tup [.str "change", w, .lst ((R.map entT).map encE)])), some (.fz (.tup [.str "answer", w2])), x8, x10, G', ?_⟩
      rw [eA, seq_nx evB_no2]
      exact evC_yes ea d1
    · have p1 := pages_of_ok (a := w) Pl.len
      have p2 := pages_of_ok (a := w2) Pl'.len
      have h : ((realP R).filter (fun p => decide (p ∈ realP R')) = [] ∧ fn_law_both [.dic (encP P), toldC w R, toldC w2 R', .dic (encT (dueT c' (dueT c T)))] = some (.bl true) ∧ fn_law_both [.dic (encP P), toldC w2 R', toldC w R, .dic (encT (dueT c' (dueT c T)))] = some (.bl true)) ∨
          ((realP R).filter (fun p => decide (p ∈ realP R')) ≠ [] ∧ fn_law_alone [.dic (encP P), toldC w R, toldC w2 R'] = some (.bl true) ∧ fn_law_alone [.dic (encP P), toldC w2 R', toldC w R] = some (.bl true)) := by
        by_cases hz : (realP R).filter (fun p => decide (p ∈ realP R')) = []
        · have hno : ∀ p, p ∈ realP R → p ∉ realP R' := fun p hp hp' => by
            have : p ∈ (realP R).filter (fun p => decide (p ∈ realP R')) := List.mem_filter.mpr ⟨hp, decide_eq_true hp'⟩
            rw [hz] at this
            cases this
          have hk : keyC c ≠ keyC c' := fun e => by
            rw [e] at q4
            have hs := G.ex.leafOne q1 r1 q2 r2 q3 r3 q4 r4
            have hp : s.p = s'.p := congrArg (fun z : Pg => z.1) hs
            obtain ⟨t, ht, htp⟩ := List.mem_map.mp Pl.leaf
            obtain ⟨u, hu, hup⟩ := List.mem_map.mp Pl'.leaf
            have hge : 0 ≤ s.p := (G.ex.rng _ q1).1
            exact hno s.p (realP_mem.mpr ⟨t, ht, by rw [htp]; exact hge, htp⟩) (realP_mem.mpr ⟨u, hu, by rw [hup, ← hp]; exact hge, by rw [hup, hp]⟩)
          refine .inl ⟨hz, both_ok G hn hk Pl Pl' L L' q5 r5 (fun t ht h0 hm => ?_) D12.nd (fun x => rfl), both_ok G hn (fun e => hk e.symm) Pl' Pl L' L r5 q5 (fun t ht h0 hm => ?_) D12.nd (fun x => due_comm G.nd hk x)⟩
          · obtain ⟨u, hu, hup⟩ := List.mem_map.mp hm
            exact hno t.p (realP_mem.mpr ⟨u, hu, by rw [hup]; exact h0, hup⟩) (realP_mem.mpr ⟨t, ht, h0, rfl⟩)
          · obtain ⟨u, hu, hup⟩ := List.mem_map.mp hm
            exact hno t.p (realP_mem.mpr ⟨t, ht, h0, rfl⟩) (realP_mem.mpr ⟨u, hu, by rw [hup]; exact h0, hup⟩)
        · obtain ⟨p, hp⟩ := List.exists_mem_of_ne_nil _ hz
          obtain ⟨h3, h4⟩ := List.mem_filter.mp hp
          have h4 : p ∈ realP R' := of_decide_eq_true h4
          obtain ⟨t, ht, ht0, htp⟩ := realP_mem.mp h3
          obtain ⟨u, hu, hu0, hup⟩ := realP_mem.mp h4
          exact .inr ⟨hz, alone_ok G hn Pl Pl' L q5 ⟨u, hu, hu0, List.mem_map.mpr ⟨t, ht, htp.trans hup.symm⟩⟩, alone_ok G hn Pl' Pl L' r5 ⟨t, ht, ht0, List.mem_map.mpr ⟨u, hu, hup.trans htp.symm⟩⟩⟩
      obtain ⟨y8, y10, eB⟩ := evB_both (s := .scr ns) (k := .int (k : Int)) (x8 := x8) (x9 := x9) (x10 := x10) (realP_len Pl.len) p1 p2 d1 d2 h
      refine ⟨P', dueT c T, some (.fz (encC c)), some (.fz (encC c')), some (.fz (.tup [.str "change", w, .lst ((R.map entT).map encE)])), some (.fz (.tup [.str "change", w2, .lst ((R'.map entT).map encE)])), y8, y10, G', ?_⟩
      rw [eA, seq_nx eB]
      exact evC_yes ea d1
theorem plain_law (ns : List Int) (hl : ns.length ≤ 63) : fn_law [.scr ns] = some (.bl true) := by
  obtain ⟨j0, hj0⟩ := cell_ok ns 0
  have hj0 : fn_law_cell [.scr ns, .int 0] = some (.int j0) := hj0
  obtain ⟨P, T, G, ef⟩ := filled_ok j0
  obtain ⟨m, hm, em⟩ := many_ok ns
  have hlen : dLen (.scr ns) = some (.int ns.length) := rfl
  obtain ⟨r, hr, emin⟩ : ∃ r : Nat, r ≤ 20 ∧ dMin (.int (ns.length : Int)) (.int (m : Int)) = some (.int (r : Int)) := by
    by_cases q : (m : Int) < (ns.length : Int)
    · refine ⟨m, hm, ?_⟩
      show some (D.int (if (m : Int) < (ns.length : Int) then (m : Int) else (ns.length : Int))) = _
      rw [if_pos q]
    · refine ⟨ns.length, by omega, ?_⟩
      show some (D.int (if (m : Int) < (ns.length : Int) then (m : Int) else (ns.length : Int))) = _
      rw [if_neg q]
  obtain ⟨ρ', el, P', T', y3, y4, y5, y6, y7, y8, y9, y10, rfl, _⟩ := loop_inv (bi := bName 3) (body := b_law) (ds := rngD 0 1 r)
    (fun t ρ => ∃ P T y3 y4 y5 y6 y7 y8 y9 y10, ρ = [some (.fz (.scr ns)), some (.fz (.dic (encP P))), some (.fz (.dic (encT T))), y3, y4, y5, y6, y7, y8, y9, y10] ∧ Good P T (39 + t))
    (ρ := [some (.fz (.scr ns)), some (.fz (.dic (encP P))), some (.fz (.dic (encT T))), none, none, none, none, none, none, none, none]) 0 ⟨P, T, none, none, none, none, none, none, none, none, rfl, G⟩ (by
      rintro t d ρ hd ⟨P, T, y3, y4, y5, y6, y7, y8, y9, y10, rfl, G⟩
      obtain ⟨hin, rfl⟩ := rngD_get hd
      rw [show 0 + (t : Int) * 1 = (t : Int) by omega]
      obtain ⟨P', T', z4, z5, z6, z7, z8, z10, G', e⟩ := law_turn G (by omega) ns t (x4 := y4) (x5 := y5) (x6 := y6) (x7 := y7) (x8 := y8) (x9 := y9) (x10 := y10)
      exact ⟨_, _, rfl, e, P', T', some (.fz (.int (t : Int))), z4, z5, z6, z7, z8, y9, z10, rfl, G'⟩)
  have jr := j_r1 (u := (r : Int)) (small_ok (by omega) (by omega))
  rw [show ((r : Int)).toNat = r by omega] at jr
  have eg : g_law = (gSeq (gUn [1, 2] (fM (fCall fn_law_filled [(fCall fn_law_cell [(fVar 0), (fC (.int 0))])])))
    (gSeq (gIf (fT (f2 dIsN (fVar 1) (fC .non))) (gRet (fM (fC (.bl false)))) gNx)
    (gSeq (gFor (iR1 (f2 dMin (f1 dLen (fVar 0)) (fCall fn_law_many [(fVar 0), (fC (.int 6)), (fC (.int 20))]))) (bName 3) b_law)
    (gRet (fM (fC (.bl true))))))) := rfl
  unfold fn_law
  rw [eg]
  generalize b_law = bl at el ⊢
  walk_at "ev"
  rw [hj0]
  walk_at "ev"
  rw [ef]
  walk_at "ev"
  rw [hlen, em]
  walk_at "ev"
  rw [emin, jr]
  walk_at "ev"
  rw [el]
  walk_at "ev"
end K32
end
set_option maxHeartbeats 0
theorem PySem.Challenge.cw_espalier_k32_whole_plans_that_commute_holds : PySem.Challenge.rw_espalier_k32_whole_plans_that_commute.Holds :=
  K32.final K32.plain_law
