import PyProof.Rows.All
import Wide.All
import OpenK.AllK
import Wide.FinOn
import HandS.ForMost
import HandS.ForExc
import HandS.Wide
import HandS.IsInst
import HandS.Zip
import HandS.Walk
import HandS.Deep
import HandS.TupAny
import KE.SortData
import KE.GoesEnum
import KE.DataEq
import KE.DataCmp
import KE.DataAny
import KE.DataFind
import KE.DataIsa
import KE.DataMinMax
import HandS.TupMul
import PyProof.SeqIndex
import HandS.Style
import HandS.SortInts
import HandS.Strs
import HandS.SetFor
import HandS.TupSets
import KE.GoesMore
import HandS.Conv
import HandS.HeadNt
import KE.KTupSum
import HandS.HeadEnd
import PySem.Challenge.RW_fewforces_k59_whole_weighings_that_tell
import HandS.Words
import HandS.Head0
import HandS.Head1
import HandS.Head2
import HandS.HeadHook1
import HandS.HeadHook2
set_option Elab.async false
set_option linter.all false
set_option maxRecDepth 100000
set_option maxHeartbeats 4000000
namespace Fw
open PySem PySem.Spec PyProof.Rows L2

/-- plain data: what a value of the program stands for -/
inductive D where
  | non | bl (b : Bool) | int (i : Int) | str (s : Str)
  | tup (xs : List D) | lst (xs : List D) | dic (ks vs : List D) | fn (x : Str)
  deriving Inhabited
/-- own: this body's own; ref: lent by the caller, to be changed; lck: to be read alone -/
inductive Mk where
  | own | ref | lck
  deriving DecidableEq
inductive Sl where
  | no | v (d : D) | mu (k : Mk) (d : D)
  deriving Inhabited
abbrev En := List Sl
/-- an expression's result: a value, the thing of a slot, a new thing of nobody's -/
inductive R where
  | v (d : D) | al (i : Nat) | fr (d : D)
inductive Out (α : Type) where
  | ok (a : α) (en : En) | err (x : Str) (en : En) | bad
abbrev M (α : Type) := En → Out α
@[reducible] def M.bnd {α β : Type} (m : M α) (f : α → M β) : M β := fun en => match m en with
  | .ok a en' => f a en'
  | .err x en' => .err x en'
  | .bad => .bad

section
variable (K : PySem.W.Frag) (mg : Str → Option Value) (H : Hp)
def FzL (a : Addr) (xs : List V) : Prop :=
  (∃ o, H a = some (.frz o (.lst xs))) ∨
    ∃ (o : Obj) (its : Array Value) (n : Nat), K.lookup a = some o ∧ o.cls = .type "list" ∧ o.dict = none ∧ o.data = .seq its n ∧ its.size ≤ sizeLine ∧ Vals xs its.toList
def keyD : Key → D
  | .inl i => .int i
  | .inr x => .str x
mutual
inductive Dr : V → D → Prop
  | non : Dr .non .non
  | bl (b : Bool) : Dr (.bl b) (.bl b)
  | int (i : Int) : Dr (.int i) (.int i)
  | str (x : Str) : Dr (.str x) (.str x)
  | tup {a : Addr} {xs : List V} {ds : List D} : SqT K H a xs → DrL xs ds → Dr (.ref a) (.tup ds)
  | lst {a : Addr} {xs : List V} {ds : List D} : FzL K H a xs → DrL xs ds → Dr (.ref a) (.lst ds)
  | dic {a : Addr} {o : Obj} {kvs : List (Key × V)} {ks vs : List D} : H a = some (.frz o (.dK kvs)) → ks = kvs.map (fun p => keyD p.1) → DrL (kvs.map (·.2)) vs → Dr (.ref a) (.dic ks vs)
  | dit {a : Addr} {o : Obj} {kvs : List (List Key × V)} {ks vs : List D} : H a = some (.frz o (.dT kvs)) → ks = kvs.map (fun p => .tup (p.1.map keyD)) → DrL (kvs.map (·.2)) vs → Dr (.ref a) (.dic ks vs)
  | fn {x : Str} {f : Addr} : mg x = some (.ref f) → Dr (.ref f) (.fn x)
inductive DrL : List V → List D → Prop
  | nil : DrL [] []
  | cons {v : V} {vs : List V} {d : D} {ds : List D} : Dr v d → DrL vs ds → DrL (v :: vs) (d :: ds)
end
/-- the content of a thing that may be changed -/
def MuC (a : Addr) : D → Prop
  | .lst ds => ∃ xs, H a = some (.lst xs) ∧ DrL K mg H xs ds
  | .dic ks vs => (∃ kvs : List (Key × V), H a = some (.dK kvs) ∧ ks = kvs.map (fun p => keyD p.1) ∧ DrL K mg H (kvs.map (·.2)) vs) ∨
      ∃ kvs : List (List Key × V), H a = some (.dT kvs) ∧ ks = kvs.map (fun p => .tup (p.1.map keyD)) ∧ DrL K mg H (kvs.map (·.2)) vs
  | _ => False
/-- readable as d -/
def Rb (v : V) (d : D) : Prop := Dr K mg H v d ∨ ∃ a, v = .ref a ∧ MuC K mg H a d
end

section
variable {K : PySem.W.Frag} {mg : Str → Option Value} {H H' H1 H2 : Hp}
theorem DrL.length : ∀ {vs : List V} {ds : List D}, DrL K mg H vs ds → vs.length = ds.length
  | _, _, .nil => rfl
  | _, _, .cons _ t => by rw [List.length_cons, List.length_cons, DrL.length t]
theorem DrL.get : ∀ {vs : List V} {ds : List D} {i : Nat} {d : D}, DrL K mg H vs ds → ds[i]? = some d → ∃ v, vs[i]? = some v ∧ Dr K mg H v d
  | _, _, _, _, .nil, e => by simp at e
  | _, _, 0, _, .cons r _, e => by simp at e; subst e; exact ⟨_, rfl, r⟩
  | _, _, i + 1, d, .cons _ t, e => by
    obtain ⟨u, h1, h2⟩ := DrL.get (i := i) (d := d) t (by simpa using e)
    exact ⟨u, by simpa using h1, h2⟩
theorem DrL.getV : ∀ {vs : List V} {ds : List D} {i : Nat} {v : V}, DrL K mg H vs ds → vs[i]? = some v → ∃ d, ds[i]? = some d ∧ Dr K mg H v d
  | _, _, _, _, .nil, e => by simp at e
  | _, _, 0, _, .cons r _, e => by simp at e; subst e; exact ⟨_, rfl, r⟩
  | _, _, i + 1, v, .cons _ t, e => by
    obtain ⟨u, h1, h2⟩ := DrL.getV (i := i) (v := v) t (by simpa using e)
    exact ⟨u, by simpa using h1, h2⟩
theorem DrL.append : ∀ {vs us : List V} {ds es : List D}, DrL K mg H vs ds → DrL K mg H us es → DrL K mg H (vs ++ us) (ds ++ es)
  | _, _, _, _, .nil, s => s
  | _, _, _, _, .cons r t, s => .cons r (DrL.append t s)
theorem DrL.take : ∀ {vs : List V} {ds : List D} (n : Nat), DrL K mg H vs ds → DrL K mg H (vs.take n) (ds.take n)
  | _, _, 0, _ => .nil
  | _, _, _ + 1, .nil => .nil
  | _, _, n + 1, .cons r t => .cons r (DrL.take n t)
theorem DrL.drop : ∀ {vs : List V} {ds : List D} (n : Nat), DrL K mg H vs ds → DrL K mg H (vs.drop n) (ds.drop n)
  | _, _, 0, r => r
  | _, _, _ + 1, .nil => .nil
  | _, _, n + 1, .cons _ t => DrL.drop n t
theorem DrL.set {x : V} {d : D} (r : Dr K mg H x d) : ∀ {vs : List V} {ds : List D} (i : Nat), DrL K mg H vs ds → DrL K mg H (vs.set i x) (ds.set i d)
  | _, _, _, .nil => .nil
  | _, _, 0, .cons _ t => .cons r t
  | _, _, i + 1, .cons q t => .cons q (DrL.set r i t)
theorem DrL.snoc {vs : List V} {ds : List D} {v : V} {d : D} (h : DrL K mg H vs ds) (r : Dr K mg H v d) : DrL K mg H (vs ++ [v]) (ds ++ [d]) := h.append (.cons r .nil)
theorem DrL.reverse : ∀ {vs : List V} {ds : List D}, DrL K mg H vs ds → DrL K mg H vs.reverse ds.reverse
  | _, _, .nil => .nil
  | _, _, .cons r t => by
    rw [List.reverse_cons, List.reverse_cons]
    exact (DrL.reverse t).snoc r
theorem DrL.ints : ∀ {vs : List V} {ns : List Int}, DrL K mg H vs (ns.map D.int) → vs = ns.map V.int
  | _, [], h => by cases h; rfl
  | _, n :: ns, h => by
    cases h with
    | cons r t => cases r; rw [DrL.ints t]; rfl
theorem DrL.of_ints : ∀ {ns : List Int}, DrL K mg H (ns.map V.int) (ns.map D.int)
  | [] => .nil
  | n :: ns => .cons (.int n) DrL.of_ints

/-- what may not be changed is kept -/
structure Mo (H H' : Hp) : Prop where
  tup : ∀ b xs, H b = some (.tup xs) → H' b = some (.tup xs)
  frz : ∀ b o u, H b = some (.frz o u) → H' b = some (.frz o u)
theorem Mo.refl : Mo H H := ⟨fun _ _ h => h, fun _ _ _ h => h⟩
theorem Mo.trans (a : Mo H H1) (b : Mo H1 H2) : Mo H H2 := ⟨fun c xs h => b.tup c xs (a.tup c xs h), fun c o u h => b.frz c o u (a.frz c o u h)⟩
theorem Mo.same (s : Same H H') : Mo H H' := ⟨fun b xs h => s b _ h, fun b o u h => s b _ h⟩
theorem sqT_mo {a : Addr} {xs : List V} (m : Mo H H') (h : SqT K H a xs) : SqT K H' a xs := by
  rcases h with (h | ⟨o, h⟩) | h
  · exact .inl (.inl (m.tup _ _ h))
  · exact .inl (.inr ⟨o, m.frz _ _ _ h⟩)
  · exact .inr h
theorem FzL.mo {a : Addr} {xs : List V} (m : Mo H H') (h : FzL K H a xs) : FzL K H' a xs := by
  rcases h with ⟨o, h⟩ | h
  · exact .inl ⟨o, m.frz _ _ _ h⟩
  · exact .inr h
theorem FzL.sq {a : Addr} {xs : List V} (h : FzL K H a xs) : SqL K H a xs := by
  rcases h with ⟨o, h⟩ | h
  · exact .inl (.inr ⟨o, h⟩)
  · exact .inr h
mutual
theorem Dr.mo (m : Mo H H') : ∀ {v : V} {d : D}, Dr K mg H v d → Dr K mg H' v d
  | _, _, .non => .non
  | _, _, .bl b => .bl b
  | _, _, .int i => .int i
  | _, _, .str x => .str x
  | _, _, .tup h t => .tup (sqT_mo m h) (DrL.mo m t)
  | _, _, .lst h t => .lst (h.mo m) (DrL.mo m t)
  | _, _, .dic h e t => .dic (m.frz _ _ _ h) e (DrL.mo m t)
  | _, _, .dit h e t => .dit (m.frz _ _ _ h) e (DrL.mo m t)
  | _, _, .fn h => .fn h
theorem DrL.mo (m : Mo H H') : ∀ {v : List V} {d : List D}, DrL K mg H v d → DrL K mg H' v d
  | _, _, .nil => .nil
  | _, _, .cons r t => .cons (Dr.mo m r) (DrL.mo m t)
end
theorem MuC.ne {a : Addr} {d : D} (h : MuC K mg H a d) : ∃ u, H a = some u ∧ Mut (some u) := by
  cases d with
  | lst ds => obtain ⟨xs, e, _⟩ := h; exact ⟨_, e, trivial⟩
  | dic ks vs =>
    rcases h with ⟨kvs, e, _⟩ | ⟨kvs, e, _⟩
    · exact ⟨_, e, trivial⟩
    · exact ⟨_, e, trivial⟩
  | _ => exact h.elim
theorem MuC.keep {a : Addr} {d : D} (m : Mo H H') (e : H' a = H a) (h : MuC K mg H a d) : MuC K mg H' a d := by
  cases d with
  | lst ds => obtain ⟨xs, q, t⟩ := h; exact ⟨xs, e.trans q, t.mo m⟩
  | dic ks vs =>
    rcases h with ⟨kvs, q, e2, t⟩ | ⟨kvs, q, e2, t⟩
    · exact .inl ⟨kvs, e.trans q, e2, t.mo m⟩
    · exact .inr ⟨kvs, e.trans q, e2, t.mo m⟩
  | _ => exact h.elim
theorem MuC.same {a : Addr} {d : D} (s : Same H H') (h : MuC K mg H a d) : MuC K mg H' a d := by
  obtain ⟨u, e, _⟩ := h.ne
  exact h.keep (Mo.same s) ((s _ _ e).trans e.symm)
theorem Rb.same {v : V} {d : D} (s : Same H H') (h : Rb K mg H v d) : Rb K mg H' v d := by
  rcases h with h | ⟨a, e, h⟩
  · exact .inl (h.mo (Mo.same s))
  · exact .inr ⟨a, e, h.same s⟩

/-- lengths in the heap are bounded -/
def Lim (K : PySem.W.Frag) (H : Hp) : Prop := ∀ a xs, (SqL K H a xs ∨ SqT K H a xs) → xs.length ≤ sizeLine
theorem inv_lim {X : Cx} {pins : List (Addr × Obj)} {σ : L2.St} {H : Hp} {s : Shared} (I : Inv X pins σ H s) : Lim X.K H := fun a xs h => by
  rcases h with h | h
  · obtain ⟨_, _, _, z⟩ := I.list h; exact z
  · obtain ⟨_, _, _, z⟩ := I.tuple h; exact z
end

/-! ### slots -/
structure EnR (K : PySem.W.Frag) (mg : Str → Option Value) (σ : L2.St) (H : Hp) (en : En) : Prop where
  len : σ.length = en.length
  val : ∀ (i : Nat) (d : D), en[i]? = some (.v d) → ∃ v, σ[i]? = some (some v) ∧ Dr K mg H v d
  mu : ∀ (i : Nat) (k : Mk) (d : D), en[i]? = some (.mu k d) → ∃ a, σ[i]? = some (some (.ref a)) ∧ MuC K mg H a d
  dist : ∀ (i j : Nat) (a : Addr) (k : Mk) (d : D) (k' : Mk) (d' : D), en[i]? = some (.mu k d) → en[j]? = some (.mu k' d') → σ[i]? = some (some (.ref a)) → σ[j]? = some (some (.ref a)) → i = j
/-- the addresses of the things that may be changed -/
def MA (σ : L2.St) (en : En) (a : Addr) : Prop := ∃ (i : Nat) (k : Mk) (d : D), en[i]? = some (.mu k d) ∧ k ≠ .lck ∧ σ[i]? = some (some (.ref a))
def AM (σ : L2.St) (en : En) (a : Addr) : Prop := ∃ (i : Nat) (k : Mk) (d : D), en[i]? = some (.mu k d) ∧ σ[i]? = some (some (.ref a))
structure Stp (K : PySem.W.Frag) (mg : Str → Option Value) (σ : L2.St) (H : Hp) (en : En) (σ' : L2.St) (H' : Hp) (en' : En) : Prop where
  fr : ∀ b o, H b = some o → ¬ MA σ en b → H' b = some o
  er : EnR K mg σ' H' en'
  ma : ∀ a, MA σ' en' a → MA σ en a ∨ H a = none
  am : ∀ a, AM σ' en' a → AM σ en a ∨ H a = none
  kp : ∀ (i : Nat) (k : Mk) (d : D), en[i]? = some (.mu k d) → k ≠ .own → σ'[i]? = σ[i]? ∧ ∃ d', en'[i]? = some (.mu k d') ∧ (k = .lck → d' = d)
  ln : en'.length = en.length

section
variable {K : PySem.W.Frag} {mg : Str → Option Value} {σ σ1 σ2 : L2.St} {H H' H1 H2 : Hp} {en en1 en2 : En}
theorem MA.am {a : Addr} (h : MA σ en a) : AM σ en a := let ⟨i, k, d, e, _, q⟩ := h; ⟨i, k, d, e, q⟩
theorem EnR.there (E : EnR K mg σ H en) {a : Addr} (h : AM σ en a) : ∃ u, H a = some u ∧ Mut (some u) := by
  obtain ⟨i, k, d, e, q⟩ := h
  obtain ⟨a', q', m⟩ := E.mu i k d e
  rw [q] at q'
  cases q'
  exact m.ne
theorem EnR.same (E : EnR K mg σ H en) (s : Same H H') : EnR K mg σ H' en :=
  ⟨E.len, fun i d e => let ⟨v, q, r⟩ := E.val i d e; ⟨v, q, r.mo (Mo.same s)⟩, fun i k d e => let ⟨a, q, r⟩ := E.mu i k d e; ⟨a, q, r.same s⟩, E.dist⟩
theorem EnR.mo_of (E : EnR K mg σ H en) (f : ∀ b o, H b = some o → ¬ MA σ en b → H' b = some o) : Mo H H' := by
  refine ⟨fun b xs h => f b _ h fun z => ?_, fun b o u h => f b _ h fun z => ?_⟩
  · obtain ⟨u, e, m⟩ := E.there z.am
    rw [h] at e; cases e; exact m
  · obtain ⟨u', e, m⟩ := E.there z.am
    rw [h] at e; cases e; exact m
theorem Stp.mo (E : EnR K mg σ H en) (s : Stp K mg σ H en σ1 H1 en1) : Mo H H1 := E.mo_of s.fr
theorem Stp.refl (E : EnR K mg σ H en) : Stp K mg σ H en σ H en := ⟨fun _ _ h _ => h, E, fun _ h => .inl h, fun _ h => .inl h, fun i k d e _ => ⟨rfl, d, e, fun _ => rfl⟩, rfl⟩
theorem Stp.trans (a : Stp K mg σ H en σ1 H1 en1) (b : Stp K mg σ1 H1 en1 σ2 H2 en2) : Stp K mg σ H en σ2 H2 en2 := by
  have back : ∀ c o, H c = some o → ¬ MA σ en c → ¬ MA σ1 en1 c := fun c o e n z => by
    rcases a.ma c z with q | q
    · exact n q
    · rw [e] at q; cases q
  refine ⟨fun c o e n => b.fr c o (a.fr c o e n) (back c o e n), b.er, fun c z => ?_, fun c z => ?_, fun i k d e hk => ?_, b.ln.trans a.ln⟩
  · rcases b.ma c z with q | q
    · exact a.ma c q
    · by_cases m : MA σ en c
      · exact .inl m
      · cases e : H c with
        | none => exact .inr rfl
        | some o => rw [a.fr c o e m] at q; cases q
  · rcases b.am c z with q | q
    · exact a.am c q
    · by_cases m : MA σ en c
      · exact .inl m.am
      · cases e : H c with
        | none => exact .inr rfl
        | some o => rw [a.fr c o e m] at q; cases q
  · obtain ⟨s1, d1, e1, l1⟩ := a.kp i k d e hk
    obtain ⟨s2, d2, e2, l2⟩ := b.kp i k d1 e1 hk
    exact ⟨s2.trans s1, d2, e2, fun z => (l2 z).trans (l1 z)⟩
theorem Stp.same (E : EnR K mg σ H en) (s : Same H H') : Stp K mg σ H en σ H' en := ⟨fun b o e _ => s b o e, E.same s, fun _ h => .inl h, fun _ h => .inl h, fun i k d e _ => ⟨rfl, d, e, fun _ => rfl⟩, rfl⟩
/-- a thing of a slot is changed -/
theorem EnR.put (E : EnR K mg σ H en) {i : Nat} {k : Mk} {d d' : D} {a : Addr} {o : HO} (e : en[i]? = some (.mu k d)) (q : σ[i]? = some (some (.ref a))) (c : MuC K mg (upd H a o) a d') : EnR K mg σ (upd H a o) (en.set i (.mu k d')) := by
  obtain ⟨a', q', m⟩ := E.mu i k d e
  rw [q] at q'; cases q'
  obtain ⟨u, hu, mu⟩ := m.ne
  have ne : ∀ b w, H b = some w → ¬ Mut (some w) → b ≠ a := fun b w h n z => by subst z; rw [hu] at h; cases h; exact n mu
  have hm : Mo H (upd H a o) := ⟨fun b xs h => by rw [upd_ne (ne b _ h fun z => z)]; exact h, fun b ob w h => by rw [upd_ne (ne b _ h fun z => z)]; exact h⟩
  have hi : i < en.length := (List.getElem?_eq_some_iff.mp e).1
  have look : ∀ (j : Nat) (k' : Mk) (d0 : D), (en.set i (.mu k d'))[j]? = some (.mu k' d0) → ∃ d1, en[j]? = some (.mu k' d1) := fun j k' d0 h => by
    by_cases hj : i = j
    · subst hj
      rw [List.getElem?_set_self hi] at h
      cases h
      exact ⟨d, e⟩
    · rw [List.getElem?_set_ne hj] at h
      exact ⟨d0, h⟩
  refine ⟨by rw [List.length_set]; exact E.len, fun j d0 h => ?_, fun j k' d0 h => ?_, fun j l b k1 d1 k2 d2 h1 h2 s1 s2 => ?_⟩
  · have hj : i ≠ j := fun z => by subst z; rw [List.getElem?_set_self hi] at h; cases h
    rw [List.getElem?_set_ne hj] at h
    obtain ⟨v, s, r⟩ := E.val j d0 h
    exact ⟨v, s, r.mo hm⟩
  · by_cases hj : i = j
    · subst hj
      rw [List.getElem?_set_self hi] at h
      cases h
      exact ⟨a, q, c⟩
    · rw [List.getElem?_set_ne hj] at h
      obtain ⟨b, s, r⟩ := E.mu j k' d0 h
      refine ⟨b, s, r.keep hm (upd_ne fun z => ?_)⟩
      subst z
      exact hj (E.dist i j b k d k' d0 e h q s)
  · obtain ⟨d1', h1'⟩ := look j k1 d1 h1
    obtain ⟨d2', h2'⟩ := look l k2 d2 h2
    exact E.dist j l b k1 d1' k2 d2' h1' h2' s1 s2
theorem Stp.put (E : EnR K mg σ H en) {i : Nat} {k : Mk} {d d' : D} {a : Addr} {o : HO} (e : en[i]? = some (.mu k d)) (hk : k ≠ .lck) (q : σ[i]? = some (some (.ref a))) (c : MuC K mg (upd H a o) a d') : Stp K mg σ H en σ (upd H a o) (en.set i (.mu k d')) := by
  have hi : i < en.length := (List.getElem?_eq_some_iff.mp e).1
  refine ⟨fun b w h n => ?_, E.put e q c, fun b z => ?_, fun b z => ?_, fun j k' d0 h hk' => ?_, List.length_set⟩
  · rw [upd_ne (fun z => n ?_)]
    · exact h
    · subst z; exact ⟨i, k, d, e, hk, q⟩
  · obtain ⟨j, k', d0, h, hk', s⟩ := z
    by_cases hj : i = j
    · subst hj
      rw [q] at s; cases s
      exact .inl ⟨i, k, d, e, hk, q⟩
    · rw [List.getElem?_set_ne hj] at h
      exact .inl ⟨j, k', d0, h, hk', s⟩
  · obtain ⟨j, k', d0, h, s⟩ := z
    by_cases hj : i = j
    · subst hj
      exact .inl ⟨i, k, d, e, s⟩
    · rw [List.getElem?_set_ne hj] at h
      exact .inl ⟨j, k', d0, h, s⟩
  · refine ⟨rfl, ?_⟩
    by_cases hj : i = j
    · subst hj
      rw [e] at h
      cases h
      exact ⟨d', List.getElem?_set_self hi, fun z => absurd z hk⟩
    · exact ⟨d0, by rw [List.getElem?_set_ne hj]; exact h, fun _ => rfl⟩
end
end Fw
set_option Elab.async false
set_option linter.all false
set_option maxRecDepth 100000
set_option maxHeartbeats 4000000
namespace Fw
open PySem PySem.Spec PyProof.Rows L2

section
variable (K : PySem.W.Frag) (mg : Str → Option Value)
def RR (σ : L2.St) (H : Hp) (en : En) (σ' : L2.St) (H' : Hp) (en' : En) (v : V) : R → Prop
  | .v d => Dr K mg H' v d
  | .al i => σ'[i]? = some (some v)
  | .fr d => ∃ a, v = .ref a ∧ MuC K mg H' a d ∧ ¬ AM σ' en' a ∧ (MA σ en a ∨ H a = none)
/-- what an exception is -/
def ExR (cls : Value) (d : Option Addr) (x : Str) : Prop := ∃ C, cls = .ref C ∧ mg x = some (.ref C) ∧ d = none
/-- what is wanted behind a piece that ends so -/
def PostG {α β : Type} (W : WX) (σ : L2.St) (H : Hp) (en : En) (rel : Hp → En → β → α → Prop) (o : Out α) (Q : β → Hp → Prop) : Prop :=
  match o with
  | .ok a en' => ∀ b H', Lim K H' → Stp K mg σ H en σ H' en' → rel H' en' b a → Q b H'
  | .err x en' => ∀ cls d H', Stp K mg σ H en σ H' en' → ExR mg cls d x → W cls d σ H'
  | .bad => False
end
def peek (en : En) : R → Option D
  | .v d => some d
  | .al i => match en[i]? with
    | some (.v d) => some d
    | some (.mu _ d) => some d
    | _ => none
  | .fr d => some d

section
variable {K : PySem.W.Frag} {mg : Str → Option Value} {σ σ1 σ2 : L2.St} {H H' H1 H2 : Hp} {en en1 en2 : En}
theorem Rb.peek {σ0 : L2.St} {H0 : Hp} {en0 : En} (E : EnR K mg σ H en) {v : V} {r : R} {d : D} (h : RR K mg σ0 H0 en0 σ H en v r) (p : peek en r = some d) : Rb K mg H v d := by
  cases r with
  | v d' => cases p; exact .inl h
  | fr d' => cases p; obtain ⟨a, e, m, _⟩ := h; exact .inr ⟨a, e, m⟩
  | al i =>
    have h : σ[i]? = some (some v) := h
    have p : (match en[i]? with | some (.v d) => some d | some (.mu _ d) => some d | _ => none) = some d := p
    split at p
    · next d' e =>
      cases p
      obtain ⟨v', q, r⟩ := E.val i _ e
      rw [h] at q; cases q
      exact .inl r
    · next k d' e =>
      cases p
      obtain ⟨a, q, m⟩ := E.mu i k _ e
      rw [h] at q; cases q
      exact .inr ⟨a, rfl, m⟩
    · cases p
/-- a result stays a result through further steps -/
theorem RR.later {σ0 : L2.St} {H0 : Hp} {en0 : En} (E : EnR K mg σ H en) {v : V} {r : R} (h : RR K mg σ0 H0 en0 σ H en v r) (s : Stp K mg σ H en σ H1 en1) : RR K mg σ0 H0 en0 σ H1 en1 v r := by
  cases r with
  | v d => exact Dr.mo (s.mo E) h
  | al i => exact h
  | fr d =>
    obtain ⟨a, e, m, n, w⟩ := h
    obtain ⟨u, hu, _⟩ := m.ne
    have q : H1 a = some u := s.fr a u hu fun z => n z.am
    refine ⟨a, e, m.keep (s.mo E) (q.trans hu.symm), fun z => ?_, w⟩
    rcases s.am a z with z | z
    · exact n z
    · rw [hu] at z; cases z
theorem RR.back (st : Stp K mg σ H en σ1 H1 en1) {v : V} {r : R} (h : RR K mg σ1 H1 en1 σ2 H2 en2 v r) : RR K mg σ H en σ2 H2 en2 v r := by
  cases r with
  | v d => exact h
  | al i => exact h
  | fr d =>
    obtain ⟨a, e, m, n, w⟩ := h
    refine ⟨a, e, m, n, ?_⟩
    rcases w with w | w
    · exact st.ma a w
    · by_cases z : MA σ en a
      · exact .inl z
      · cases q : H a with
        | none => exact .inr rfl
        | some o => rw [st.fr a o q z] at w; cases w
theorem PostG.shift {α β : Type} {W : WX} {rel rel' : Hp → En → β → α → Prop} {o : Out α} {Q : β → Hp → Prop} (st : Stp K mg σ H en σ H1 en1) (h : PostG K mg W σ H en rel o Q)
    (hr : ∀ H' en' b a, Stp K mg σ H1 en1 σ H' en' → rel' H' en' b a → rel H' en' b a) : PostG K mg W σ H1 en1 rel' o Q := by
  cases o with
  | ok a en' => exact fun b H' l s r => h b H' l (st.trans s) (hr _ _ _ _ s r)
  | err x en' => exact fun cls d H' s e => h cls d H' (st.trans s) e
  | bad => exact h
theorem PostG.mono {α β : Type} {W : WX} {rel rel' : Hp → En → β → α → Prop} {o : Out α} {Q Q' : β → Hp → Prop} (h : PostG K mg W σ H en rel o Q)
    (hr : ∀ H' en' b a, Lim K H' → Stp K mg σ H en σ H' en' → rel' H' en' b a → rel H' en' b a) (hq : ∀ b H', Q b H' → Q' b H') : PostG K mg W σ H en rel' o Q' := by
  cases o with
  | ok a en' => exact fun b H' l s r => hq _ _ (h b H' l s (hr _ _ _ _ l s r))
  | err x en' => exact h
  | bad => exact h
/-- a piece, then a further one: what is wanted of the first -/
theorem PostG.bind {α β γ δ : Type} {W : WX} {rel1 : Hp → En → β → α → Prop} {rel2 : Hp → En → δ → γ → Prop} {m : M α} {f : α → M γ} {Q1 : β → Hp → Prop} {Q : δ → Hp → Prop}
    (h : PostG K mg W σ H en rel2 ((M.bnd m f) en) Q)
    (k : ∀ a en1 b H1, m en = .ok a en1 → Lim K H1 → Stp K mg σ H en σ H1 en1 → rel1 H1 en1 b a → PostG K mg W σ H en rel2 (f a en1) Q → Q1 b H1) : PostG K mg W σ H en rel1 (m en) Q1 := by
  unfold M.bnd at h
  cases e : m en with
  | ok a en1 => rw [e] at h; exact fun b H1 l s r => k a en1 b H1 e l s r h
  | err x en1 => rw [e] at h; exact h
  | bad => rw [e] at h; exact h
end

section
variable (X : Cx) (W : WX)
abbrev relR (σ : L2.St) (H : Hp) (en : En) : Hp → En → V → R → Prop := fun H' en' v r => RR X.K X.mg σ H en σ H' en' v r
structure DE (e : Expr) (f : M R) : Prop where
  ex : ∃ t : TE, PE X e t ∧ ∀ σ H en Q, Lim X.K H → EnR X.K X.mg σ H en → PostG X.K X.mg W σ H en (relR X σ H en) (f en) Q → t σ H Q
structure DV (e : Expr) (f : M D) : Prop where
  ex : ∃ t : TE, PE X e t ∧ ∀ σ H en Q, Lim X.K H → EnR X.K X.mg σ H en → PostG X.K X.mg W σ H en (fun H' _ v d => Dr X.K X.mg H' v d) (f en) Q → t σ H Q
structure DT (e : Expr) (f : M Bool) : Prop where
  ex : ∃ t : TT, PT X e t ∧ ∀ σ H en Q, Lim X.K H → EnR X.K X.mg σ H en → PostG X.K X.mg W σ H en (fun _ _ b c => b = c) (f en) Q → t σ H Q
structure DW (e : Expr) (f : M Bool) : Prop where
  ex : ∃ t : TT, PW X e t ∧ ∀ σ H en Q, Lim X.K H → EnR X.K X.mg σ H en → PostG X.K X.mg W σ H en (fun _ _ b c => b = c) (f en) Q → t σ H Q
/-- argument lists: values as they are -/
inductive RL (σ : L2.St) (H : Hp) (en : En) (H' : Hp) (en' : En) : List V → List R → Prop
  | nil : RL σ H en H' en' [] []
  | cons {v vs r rs} : RR X.K X.mg σ H en σ H' en' v r → RL σ H en H' en' vs rs → RL σ H en H' en' (v :: vs) (r :: rs)
structure DA (es : List Expr) (f : M (List R)) : Prop where
  ex : ∃ t : TA, PA X es t ∧ ∀ σ H en Q, Lim X.K H → EnR X.K X.mg σ H en → PostG X.K X.mg W σ H en (fun H' en' vs rs => RL X σ H en H' en' vs rs) (f en) Q → t σ H Q
/-- .. frozen -/
structure DAV (es : List Expr) (f : M (List D)) : Prop where
  ex : ∃ t : TA, PA X es t ∧ ∀ σ H en Q, Lim X.K H → EnR X.K X.mg σ H en → PostG X.K X.mg W σ H en (fun H' _ vs ds => DrL X.K X.mg H' vs ds) (f en) Q → t σ H Q
end

section
variable {X : Cx} {W : WX} {e : Expr} {es : List Expr}
/-- lengths are known at the start and behind -/
def tLim (K : PySem.W.Frag) (t : TE) : TE := fun σ H Q => Lim K H → t σ H fun v H' => Lim K H' → Q v H'
theorem pe_lim {t : TE} (h : PE X e t) : PE X e (tLim X.K t) := ⟨fun pins s σ H Q I hw =>
  thn (h.run pins s σ H _ I (hw (inv_lim I))) fun _ _ ⟨v, H', I', r, q⟩ => ⟨v, H', I', r, q (inv_lim I')⟩⟩
def tLimT (K : PySem.W.Frag) (t : TT) : TT := fun σ H Q => Lim K H → t σ H fun v H' => Lim K H' → Q v H'
theorem pt_lim {t : TT} (h : PT X e t) : PT X e (tLimT X.K t) := ⟨fun pins s σ H Q I hw =>
  thn (h.run pins s σ H _ I (hw (inv_lim I))) fun _ _ ⟨H', I', q⟩ => ⟨H', I', q (inv_lim I')⟩⟩
theorem pw_lim {t : TT} (h : PW X e t) : PW X e (tLimT X.K t) := ⟨fun wh pins s σ H Q I hw =>
  thn (h.run wh pins s σ H _ I (hw (inv_lim I))) fun _ _ ⟨H', I', q⟩ => ⟨H', I', q (inv_lim I')⟩⟩
def tLimA (K : PySem.W.Frag) (t : TA) : TA := fun σ H Q => Lim K H → t σ H fun v H' => Lim K H' → Q v H'
theorem pa_lim {t : TA} (h : PA X es t) : PA X es (tLimA X.K t) := ⟨fun pos pins s σ H Q I hw =>
  thn (h.run pos pins s σ H _ I (hw (inv_lim I))) fun _ _ ⟨v, H', I', r, q⟩ => ⟨v, H', I', r, q (inv_lim I')⟩⟩
theorem DE.mk' {t : TE} {f : M R} (h : PE X e t) (k : ∀ σ H en Q, Lim X.K H → EnR X.K X.mg σ H en → PostG X.K X.mg W σ H en (relR X σ H en) (f en) Q → t σ H fun v H' => Lim X.K H' → Q v H') : DE X W e f :=
  ⟨tLim X.K t, pe_lim h, fun σ H en Q _ E p l => k σ H en Q l E p⟩
theorem DV.mk' {t : TE} {f : M D} (h : PE X e t) (k : ∀ σ H en Q, Lim X.K H → EnR X.K X.mg σ H en → PostG X.K X.mg W σ H en (fun H' _ v d => Dr X.K X.mg H' v d) (f en) Q → t σ H fun v H' => Lim X.K H' → Q v H') : DV X W e f :=
  ⟨tLim X.K t, pe_lim h, fun σ H en Q _ E p l => k σ H en Q l E p⟩
theorem DT.mk' {t : TT} {f : M Bool} (h : PT X e t) (k : ∀ σ H en Q, Lim X.K H → EnR X.K X.mg σ H en → PostG X.K X.mg W σ H en (fun _ _ b c => b = c) (f en) Q → t σ H fun v H' => Lim X.K H' → Q v H') : DT X W e f :=
  ⟨tLimT X.K t, pt_lim h, fun σ H en Q _ E p l => k σ H en Q l E p⟩
/-- a thing is locked for ever where that is wanted -/
def tFz (t : TE) : TE := fun σ H Q => t σ H fun v H' => Q v H' ∨ ∃ a u, v = .ref a ∧ H' a = some u ∧ Mut (some u) ∧ ∀ o, Q v (upd H' a (.frz o u))
theorem pe_fz {t : TE} (h : PE X e t) : PE X e (tFz t) := ⟨fun pins s σ H Q I hw =>
  thn (h.run pins s σ H _ I hw) fun u s1 ⟨v, H', I', r, q⟩ => by
    rcases q with q | ⟨a, w, rfl, hw, mu, q⟩
    · exact ⟨v, H', I', r, q⟩
    · obtain ⟨o, I2⟩ := I'.lock hw mu
      exact ⟨_, _, I2, r, q o⟩⟩
end

section
variable {K : PySem.W.Frag} {mg : Str → Option Value} {σ : L2.St} {H : Hp} {en : En}
theorem mo_upd {a : Addr} {u o : HO} (hu : H a = some u) (mu : Mut (some u)) : Mo H (upd H a o) := by
  have ne : ∀ b w, H b = some w → ¬ Mut (some w) → b ≠ a := fun b w h n z => by subst z; rw [hu] at h; cases h; exact n mu
  exact ⟨fun b xs h => by rw [upd_ne (ne b _ h fun z => z)]; exact h, fun b ob w h => by rw [upd_ne (ne b _ h fun z => z)]; exact h⟩
/-- a thing becomes a value -/
theorem Dr.froze {a : Addr} {d : D} {u : HO} {o : Obj} (m : MuC K mg H a d) (hu : H a = some u) : Dr K mg (upd H a (.frz o u)) (.ref a) d := by
  obtain ⟨u', hu', mu⟩ := m.ne
  rw [hu] at hu'; cases hu'
  have hm := mo_upd (o := HO.frz o u) hu mu
  cases d with
  | lst ds =>
    obtain ⟨xs, e, t⟩ := m
    rw [hu] at e; cases e
    exact .lst (.inl ⟨o, upd_same⟩) (t.mo hm)
  | dic ks vs =>
    rcases m with ⟨kvs, e, q, t⟩ | ⟨kvs, e, q, t⟩
    · rw [hu] at e; cases e
      exact .dic upd_same q (t.mo hm)
    · rw [hu] at e; cases e
      exact .dit upd_same q (t.mo hm)
  | _ => exact m.elim
/-- a thing of nobody's changes -/
theorem EnR.off (E : EnR K mg σ H en) {a : Addr} {u o : HO} (hu : H a = some u) (mu : Mut (some u)) (n : ¬ AM σ en a) : EnR K mg σ (upd H a o) en := by
  have hm := mo_upd (o := o) hu mu
  refine ⟨E.len, fun i d e => let ⟨v, q, r⟩ := E.val i d e; ⟨v, q, r.mo hm⟩, fun i k d e => ?_, E.dist⟩
  obtain ⟨b, q, r⟩ := E.mu i k d e
  exact ⟨b, q, r.keep hm (upd_ne fun z => n ⟨i, k, d, e, by rw [← z]; exact q⟩)⟩
theorem Stp.off {H0 : Hp} {en0 : En} (s : Stp K mg σ H0 en0 σ H en) {a : Addr} {u o : HO} (hu : H a = some u) (mu : Mut (some u)) (n : ¬ AM σ en a) (w : MA σ en0 a ∨ H0 a = none) : Stp K mg σ H0 en0 σ (upd H a o) en := by
  refine ⟨fun b p e nb => ?_, s.er.off hu mu n, s.ma, s.am, s.kp, s.ln⟩
  rw [upd_ne fun z => ?_]
  · exact s.fr b p e nb
  · subst z
    rcases w with w | w
    · exact nb w
    · rw [e] at w; cases w
/-- a slot's own thing is frozen -/
theorem Stp.frozeSlot {H0 : Hp} {en0 : En} (s : Stp K mg σ H0 en0 σ H en) {i : Nat} {d : D} {a : Addr} {u : HO} {o : Obj} (e : en[i]? = some (.mu .own d)) (q : σ[i]? = some (some (.ref a))) (hu : H a = some u) :
    Stp K mg σ H0 en0 σ (upd H a (.frz o u)) (en.set i (.v d)) := by
  have E := s.er
  obtain ⟨a', q', m⟩ := E.mu i _ d e
  rw [q] at q'; cases q'
  obtain ⟨u', hu', mu⟩ := m.ne
  rw [hu] at hu'; cases hu'
  have hm := mo_upd (o := HO.frz o u) hu mu
  have hi : i < en.length := (List.getElem?_eq_some_iff.mp e).1
  have look : ∀ (j : Nat) (k' : Mk) (d0 : D), (en.set i (.v d))[j]? = some (.mu k' d0) → j ≠ i ∧ en[j]? = some (.mu k' d0) := fun j k' d0 h => by
    by_cases hj : i = j
    · subst hj; rw [List.getElem?_set_self hi] at h; cases h
    · rw [List.getElem?_set_ne hj] at h; exact ⟨fun z => hj z.symm, h⟩
  have isma : MA σ en a := ⟨i, _, d, e, by decide, q⟩
  refine ⟨fun b p h nb => ?_, ⟨by rw [List.length_set]; exact E.len, fun j d0 h => ?_, fun j k' d0 h => ?_, fun j l b k1 d1 k2 d2 h1 h2 => ?_⟩, fun b z => ?_, fun b z => ?_, fun j k' d0 h hk => ?_, by rw [List.length_set]; exact s.ln⟩
  · rw [upd_ne fun z => ?_]
    · exact s.fr b p h nb
    · subst z
      rcases s.ma b isma with w | w
      · exact nb w
      · rw [h] at w; cases w
  · by_cases hj : i = j
    · subst hj
      rw [List.getElem?_set_self hi] at h
      cases h
      exact ⟨_, q, Dr.froze m hu⟩
    · rw [List.getElem?_set_ne hj] at h
      obtain ⟨v, s1, r⟩ := E.val j d0 h
      exact ⟨v, s1, r.mo hm⟩
  · obtain ⟨hj, h'⟩ := look j k' d0 h
    obtain ⟨b, s1, r⟩ := E.mu j k' d0 h'
    refine ⟨b, s1, r.keep hm (upd_ne fun z => ?_)⟩
    subst z
    exact hj (E.dist j i b k' d0 _ d h' e s1 q)
  · exact E.dist j l b k1 d1 k2 d2 (look j k1 d1 h1).2 (look l k2 d2 h2).2
  · obtain ⟨j, k', d0, h, hk, s1⟩ := z
    exact s.ma b ⟨j, k', d0, (look j k' d0 h).2, hk, s1⟩
  · obtain ⟨j, k', d0, h, s1⟩ := z
    exact s.am b ⟨j, k', d0, (look j k' d0 h).2, s1⟩
  · obtain ⟨s1, d1, e1, l1⟩ := s.kp j k' d0 h hk
    have hj : i ≠ j := fun z => by subst z; rw [e] at e1; cases e1; exact hk rfl
    exact ⟨s1, d1, by rw [List.getElem?_set_ne hj]; exact e1, l1⟩
end

/-- to a value -/
def thaw (en : En) : R → Out D
  | .v d => .ok d en
  | .fr d => .ok d en
  | .al i => match en[i]? with
    | some (.v d) => .ok d en
    | some (.mu .own d) => .ok d (en.set i (.v d))
    | _ => .bad
def toV (m : M R) : M D := M.bnd m fun r en => thaw en r

section
variable {X : Cx} {W : WX} {e : Expr}
theorem DE.toV {f : M R} (h : DE X W e f) : DV X W e (toV f) := by
  obtain ⟨t, p, k⟩ := h.ex
  refine DV.mk' (pe_fz p) fun σ H en Q l E post => ?_
  show t σ H _
  refine k σ H en _ l E (PostG.bind (Q1 := _) post fun r en1 v H1 hm l1 s1 r1 post1 => ?_)
  have post1 : PostG X.K X.mg W σ H en (fun H' _ v d => Dr X.K X.mg H' v d) (thaw en1 r) Q := post1
  cases r with
  | v d => exact .inl fun l' => post1 v H1 l' s1 r1
  | fr d =>
    obtain ⟨a, rfl, m, n, w⟩ := r1
    obtain ⟨u, hu, mu⟩ := m.ne
    exact .inr ⟨a, u, rfl, hu, mu, fun o l' => post1 _ _ l' (s1.off hu mu n w) (Dr.froze m hu)⟩
  | al i =>
    have r1 : σ[i]? = some (some v) := r1
    unfold thaw at post1
    simp only at post1
    split at post1
    · next d he =>
      obtain ⟨v', q, r⟩ := s1.er.val i d he
      rw [r1] at q; cases q
      exact .inl fun l' => post1 v H1 l' s1 r
    · next d he =>
      obtain ⟨a, q, m⟩ := s1.er.mu i _ d he
      rw [r1] at q; cases q
      obtain ⟨u, hu, mu⟩ := m.ne
      exact .inr ⟨a, u, rfl, hu, mu, fun o l' => post1 _ _ l' (s1.frozeSlot he r1 hu) (Dr.froze m hu)⟩
    · exact False.elim post1
/-- a value is a result -/
def ofV (m : M D) : M R := M.bnd m fun d en => .ok (.v d) en
theorem DV.toE {f : M D} (h : DV X W e f) : DE X W e (ofV f) := by
  obtain ⟨t, p, k⟩ := h.ex
  refine DE.mk' p fun σ H en Q l E post => ?_
  refine k σ H en _ l E (PostG.bind post fun d en1 v H1 hm l1 s1 r1 post1 => fun l' => ?_)
  exact post1 v H1 l' s1 r1
end
end Fw
set_option Elab.async false
set_option linter.all false
set_option maxRecDepth 100000
set_option maxHeartbeats 4000000
namespace Fw
open PySem PySem.Spec PyProof.Rows L2

/-! ### data, compared -/
mutual
def D.py : D → PyData
  | .non => .none
  | .bl b => .bool b
  | .int i => .int i
  | .str s => .str s
  | .tup xs => .tuple (D.pyL xs)
  | .lst xs => .list (D.pyL xs)
  | .dic _ _ => .dict []
  | .fn _ => .dict []
def D.pyL : List D → List PyData
  | [] => []
  | x :: xs => x.py :: D.pyL xs
end
/-- no dicts, no defs, no deeper than n -/
def D.fit : Nat → D → Bool
  | _, .non => true
  | _, .bl _ => true
  | _, .int _ => true
  | _, .str s => PyData.strOk s
  | n + 1, .tup xs => xs.all (D.fit n)
  | n + 1, .lst xs => xs.all (D.fit n)
  | _, _ => false
mutual
def D.eq : D → D → Bool
  | .non, .non => true
  | .bl a, .bl b => a == b
  | .bl a, .int j => (if a then 1 else 0) == j
  | .int i, .bl b => i == (if b then 1 else 0)
  | .int i, .int j => i == j
  | .str x, .str y => x == y
  | .tup xs, .tup ys => D.eqL xs ys
  | .lst xs, .lst ys => D.eqL xs ys
  | _, _ => false
def D.eqL : List D → List D → Bool
  | [], [] => true
  | x :: xs, y :: ys => D.eq x y && D.eqL xs ys
  | _, _ => false
end
mutual
def D.lt : D → D → Bool
  | .bl a, .bl b => !a && b
  | .int i, .int j => decide (i < j)
  | .str x, .str y => decide (x.cps.toList < y.cps.toList)
  | .tup xs, .tup ys => D.ltL xs ys
  | .lst xs, .lst ys => D.ltL xs ys
  | _, _ => false
def D.ltL : List D → List D → Bool
  | [], _ :: _ => true
  | x :: xs, y :: ys => if D.eq x y then D.ltL xs ys else D.lt x y
  | _, _ => false
end
/-- what the places of compared data are -/
inductive Ty where
  | non | int | str | bl | row (t : Ty) | prd (ts : List Ty) | lrow (t : Ty)
mutual
def Ty.has : Ty → D → Bool
  | .non, .non => true
  | .int, .int _ => true
  | .str, .str s => PyData.strOk s
  | .bl, .bl _ => true
  | .row t, .tup xs => xs.all (Ty.has t)
  | .lrow t, .lst xs => xs.all (Ty.has t)
  | .prd ts, .tup xs => Ty.hasL ts xs
  | _, _ => false
def Ty.hasL : List Ty → List D → Bool
  | [], [] => true
  | t :: ts, x :: xs => Ty.has t x && Ty.hasL ts xs
  | _, _ => false
end
mutual
def Ty.dep : Ty → Nat
  | .row t => t.dep + 1
  | .lrow t => t.dep + 1
  | .prd ts => Ty.depL ts + 1
  | _ => 0
def Ty.depL : List Ty → Nat
  | [] => 0
  | t :: ts => max t.dep (Ty.depL ts)
end

theorem pyL_map : ∀ xs : List D, D.pyL xs = xs.map D.py
  | [] => rfl
  | x :: xs => by rw [D.pyL, pyL_map xs]; rfl
mutual
theorem eq_py : ∀ (n m : Nat) (d e : D), d.fit n = true → e.fit m = true → PyData.eqv d.py e.py = D.eq d e
  | n, m, .non, e, _, he => by cases e <;> simp_all [D.py, PyData.eqv, D.eq, D.fit]
  | n, m, .bl a, e, _, he => by cases e <;> simp_all [D.py, PyData.eqv, D.eq, D.fit]
  | n, m, .int a, e, _, he => by cases e <;> simp_all [D.py, PyData.eqv, D.eq, D.fit]
  | n, m, .str a, e, _, he => by cases e <;> simp_all [D.py, PyData.eqv, D.eq, D.fit]
  | 0, m, .tup xs, e, h, _ => by simp [D.fit] at h
  | n + 1, m, .tup xs, e, h, he => by
    cases e with
    | tup ys =>
      cases m with
      | zero => simp [D.fit] at he
      | succ m =>
        simp only [D.py, PyData.eqv, D.eq]
        exact eqL_py n m xs ys (by simpa [D.fit] using h) (by simpa [D.fit] using he)
    | _ => simp [D.py, PyData.eqv, D.eq]
  | 0, m, .lst xs, e, h, _ => by simp [D.fit] at h
  | n + 1, m, .lst xs, e, h, he => by
    cases e with
    | lst ys =>
      cases m with
      | zero => simp [D.fit] at he
      | succ m =>
        simp only [D.py, PyData.eqv, D.eq]
        exact eqL_py n m xs ys (by simpa [D.fit] using h) (by simpa [D.fit] using he)
    | _ => simp [D.py, PyData.eqv, D.eq]
  | n, m, .dic _ _, e, h, _ => by simp [D.fit] at h
  | n, m, .fn _, e, h, _ => by simp [D.fit] at h
theorem eqL_py : ∀ (n m : Nat) (ds es : List D), (∀ d ∈ ds, d.fit n = true) → (∀ e ∈ es, e.fit m = true) → PyData.eqvAll (D.pyL ds) (D.pyL es) = D.eqL ds es
  | n, m, [], [], _, _ => by simp [D.pyL, PyData.eqvAll, D.eqL]
  | n, m, [], e :: es, _, _ => by simp [D.pyL, PyData.eqvAll, D.eqL]
  | n, m, d :: ds, [], _, _ => by simp [D.pyL, PyData.eqvAll, D.eqL]
  | n, m, d :: ds, e :: es, h, he => by
    simp only [D.pyL, PyData.eqvAll, D.eqL]
    rw [eq_py n m d e (h d (by simp)) (he e (by simp)), eqL_py n m ds es (fun x hx => h x (by simp [hx])) (fun x hx => he x (by simp [hx]))]
end
mutual
theorem lay_py : ∀ (n : Nat) (d : D), d.fit n = true → d.py.canLay0 = true ∧ d.py.depth ≤ n
  | n, .non, _ => by simp [D.py, PyData.canLay0, PyData.depth]
  | n, .bl a, _ => by simp [D.py, PyData.canLay0, PyData.depth]
  | n, .int a, _ => by simp [D.py, PyData.canLay0, PyData.depth]
  | n, .str a, h => by simpa [D.py, PyData.canLay0, PyData.depth, D.fit] using h
  | 0, .tup xs, h => by simp [D.fit] at h
  | n + 1, .tup xs, h => by
    have q := layL_py n xs (by simpa [D.fit] using h)
    exact ⟨by simpa [D.py, PyData.canLay0] using q.1, by simpa [D.py, PyData.depth] using q.2⟩
  | 0, .lst xs, h => by simp [D.fit] at h
  | n + 1, .lst xs, h => by
    have q := layL_py n xs (by simpa [D.fit] using h)
    exact ⟨by simpa [D.py, PyData.canLay0] using q.1, by simpa [D.py, PyData.depth] using q.2⟩
  | n, .dic _ _, h => by simp [D.fit] at h
  | n, .fn _, h => by simp [D.fit] at h
theorem layL_py : ∀ (n : Nat) (ds : List D), (∀ d ∈ ds, d.fit n = true) → PyData.canLayAll0 (D.pyL ds) = true ∧ PyData.depthAll (D.pyL ds) ≤ n
  | n, [], _ => by simp [D.pyL, PyData.canLayAll0, PyData.depthAll]
  | n, d :: ds, h => by
    have h1 := lay_py n d (h d (by simp))
    have h2 := layL_py n ds (fun x hx => h x (by simp [hx]))
    simp only [D.pyL, PyData.canLayAll0, PyData.depthAll, h1.1, h2.1, Bool.and_self, true_and]
    exact Nat.max_le.mpr ⟨h1.2, h2.2⟩
end
mutual
theorem has_fit : ∀ (t : Ty) (d : D), t.has d = true → d.fit t.dep = true
  | .non, d, h => by cases d <;> simp_all [Ty.has, D.fit]
  | .int, d, h => by cases d <;> simp_all [Ty.has, D.fit]
  | .str, d, h => by cases d <;> simp_all [Ty.has, D.fit]
  | .bl, d, h => by cases d <;> simp_all [Ty.has, D.fit]
  | .row t, d, h => by
    cases d with
    | tup xs =>
      simp only [Ty.has, List.all_eq_true] at h
      simp only [Ty.dep, D.fit, List.all_eq_true]
      exact fun x hx => has_fit t x (h x hx)
    | _ => simp [Ty.has] at h
  | .lrow t, d, h => by
    cases d with
    | lst xs =>
      simp only [Ty.has, List.all_eq_true] at h
      simp only [Ty.dep, D.fit, List.all_eq_true]
      exact fun x hx => has_fit t x (h x hx)
    | _ => simp [Ty.has] at h
  | .prd ts, d, h => by
    cases d with
    | tup xs =>
      simp only [Ty.has] at h
      simp only [Ty.dep, D.fit, List.all_eq_true]
      exact fun x hx => hasL_fit ts xs h (Ty.depL ts) (Nat.le_refl _) x hx
    | _ => simp [Ty.has] at h
theorem hasL_fit : ∀ (ts : List Ty) (ds : List D), Ty.hasL ts ds = true → ∀ n, Ty.depL ts ≤ n → ∀ d ∈ ds, d.fit n = true
  | [], [], _, _, _, d, hd => by simp at hd
  | [], _ :: _, h, _, _, _, _ => by simp [Ty.hasL] at h
  | _ :: _, [], h, _, _, _, _ => by simp [Ty.hasL] at h
  | t :: ts, x :: xs, h, n, hn, d, hd => by
    simp only [Ty.hasL, Bool.and_eq_true] at h
    simp only [Ty.depL] at hn
    rcases List.mem_cons.mp hd with rfl | hd
    · exact fit_mono (has_fit t d h.1) (Nat.le_trans (Nat.le_max_left _ _) hn)
    · exact hasL_fit ts xs h.2 n (Nat.le_trans (Nat.le_max_right _ _) hn) d hd
theorem fit_mono : ∀ {n m : Nat} {d : D}, d.fit n = true → n ≤ m → d.fit m = true
  | n, m, .non, _, _ => by simp [D.fit]
  | n, m, .bl _, _, _ => by simp [D.fit]
  | n, m, .int _, _, _ => by simp [D.fit]
  | n, m, .str _, h, _ => by simpa [D.fit] using h
  | 0, m, .tup xs, h, _ => by simp [D.fit] at h
  | n + 1, m + 1, .tup xs, h, hm => by
    simp only [D.fit, List.all_eq_true] at h ⊢
    exact fun x hx => fit_mono (h x hx) (by omega)
  | n + 1, 0, .tup xs, h, hm => by omega
  | 0, m, .lst xs, h, _ => by simp [D.fit] at h
  | n + 1, m + 1, .lst xs, h, hm => by
    simp only [D.fit, List.all_eq_true] at h ⊢
    exact fun x hx => fit_mono (h x hx) (by omega)
  | n + 1, 0, .lst xs, h, hm => by omega
  | n, m, .dic _ _, h, _ => by simp [D.fit] at h
  | n, m, .fn _, h, _ => by simp [D.fit] at h
end
open PySem.W in
mutual
theorem has_alike : ∀ (t : Ty) (d e : D), t.has d = true → t.has e = true → alike d.py e.py = true
  | .non, d, e, h, k => by cases d <;> cases e <;> simp_all [Ty.has, D.py, alike]
  | .int, d, e, h, k => by cases d <;> cases e <;> simp_all [Ty.has, D.py, alike]
  | .str, d, e, h, k => by cases d <;> cases e <;> simp_all [Ty.has, D.py, alike]
  | .bl, d, e, h, k => by cases d <;> cases e <;> simp_all [Ty.has, D.py, alike]
  | .row t, d, e, h, k => by
    cases d with
    | tup xs =>
      cases e with
      | tup ys =>
        simp only [Ty.has, List.all_eq_true] at h k
        simp only [D.py, alike]
        exact rows_alike t xs ys h k
      | _ => simp [Ty.has] at k
    | _ => simp [Ty.has] at h
  | .lrow t, d, e, h, k => by
    cases d with
    | lst xs =>
      cases e with
      | lst ys =>
        simp only [Ty.has, List.all_eq_true] at h k
        simp only [D.py, alike]
        exact rows_alike t xs ys h k
      | _ => simp [Ty.has] at k
    | _ => simp [Ty.has] at h
  | .prd ts, d, e, h, k => by
    cases d with
    | tup xs =>
      cases e with
      | tup ys =>
        simp only [Ty.has] at h k
        simp only [D.py, alike]
        exact hasL_alike ts xs ys h k
      | _ => simp [Ty.has] at k
    | _ => simp [Ty.has] at h
theorem hasL_alike : ∀ (ts : List Ty) (ds es : List D), Ty.hasL ts ds = true → Ty.hasL ts es = true → alikeAll (D.pyL ds) (D.pyL es) = true
  | [], [], [], _, _ => by simp [D.pyL, alikeAll]
  | [], [], _ :: _, _, k => by simp [Ty.hasL] at k
  | [], _ :: _, _, h, _ => by simp [Ty.hasL] at h
  | _ :: _, [], _, h, _ => by simp [Ty.hasL] at h
  | _ :: _, _ :: _, [], _, k => by simp [Ty.hasL] at k
  | t :: ts, d :: ds, e :: es, h, k => by
    simp only [Ty.hasL, Bool.and_eq_true] at h k
    simp only [D.pyL, alikeAll, Bool.and_eq_true]
    exact ⟨has_alike t d e h.1 k.1, hasL_alike ts ds es h.2 k.2⟩
theorem rows_alike : ∀ (t : Ty) (ds es : List D), (∀ d ∈ ds, t.has d = true) → (∀ e ∈ es, t.has e = true) → alikeAll (D.pyL ds) (D.pyL es) = true
  | _, [], _, _, _ => by simp [D.pyL, alikeAll]
  | _, _ :: _, [], _, _ => by simp [D.pyL, alikeAll]
  | t, d :: ds, e :: es, h, k => by
    simp only [D.pyL, alikeAll, Bool.and_eq_true]
    exact ⟨has_alike t d e (h d (by simp)) (k e (by simp)), rows_alike t ds es (fun x hx => h x (by simp [hx])) (fun x hx => k x (by simp [hx]))⟩
end
open PySem.W in
mutual
theorem lt_py : ∀ (n m : Nat) (d e : D), d.fit n = true → e.fit m = true → alike d.py e.py = true → dataLt d.py e.py = D.lt d e
  | n, m, .non, e, _, he, h => by
    cases e with
    | non => simp [D.py, D.lt, dataLt, keyToks, PyProof.Rows.lexLt]
    | _ => simp [D.py, alike] at h
  | n, m, .bl a, e, _, he, h => by
    cases e with
    | bl b => simp only [D.py, D.lt, dataLt_bool]; cases a <;> cases b <;> decide
    | _ => simp [D.py, alike] at h
  | n, m, .int a, e, _, he, h => by
    cases e with
    | int b => simp only [D.py, D.lt, dataLt_int]
    | _ => simp [D.py, alike] at h
  | n, m, .str a, e, _, he, h => by
    cases e with
    | str b => simp only [D.py, D.lt, dataLt_str]
    | _ => simp [D.py, alike] at h
  | 0, m, .tup xs, e, h, _, _ => by simp [D.fit] at h
  | n + 1, m, .tup xs, e, h, he, ha => by
    cases e with
    | tup ys =>
      cases m with
      | zero => simp [D.fit] at he
      | succ m =>
        simp only [D.py, D.lt, dataLt_tuple]
        exact ltL_py n m xs ys (by simpa [D.fit] using h) (by simpa [D.fit] using he) (by simpa [D.py, alike] using ha)
    | _ => simp [D.py, alike] at ha
  | 0, m, .lst xs, e, h, _, _ => by simp [D.fit] at h
  | n + 1, m, .lst xs, e, h, he, ha => by
    cases e with
    | lst ys =>
      cases m with
      | zero => simp [D.fit] at he
      | succ m =>
        simp only [D.py, D.lt, dataLt_list]
        exact ltL_py n m xs ys (by simpa [D.fit] using h) (by simpa [D.fit] using he) (by simpa [D.py, alike] using ha)
    | _ => simp [D.py, alike] at ha
  | n, m, .dic _ _, e, h, _, _ => by simp [D.fit] at h
  | n, m, .fn _, e, h, _, _ => by simp [D.fit] at h
theorem ltL_py : ∀ (n m : Nat) (ds es : List D), (∀ d ∈ ds, d.fit n = true) → (∀ e ∈ es, e.fit m = true) → alikeAll (D.pyL ds) (D.pyL es) = true →
    PyProof.Rows.lexLt itemOrd (keyToksAll (D.pyL ds)) (keyToksAll (D.pyL es)) = D.ltL ds es
  | n, m, [], [], _, _, _ => by simp only [D.pyL, D.ltL, keyToksAll]; decide
  | n, m, [], e :: es, _, _, _ => by
    simp only [D.pyL, D.ltL, keyToksAll]
    rw [lex_atom (by simp)]
    decide
  | n, m, d :: ds, [], _, _, _ => by
    simp only [D.pyL, D.ltL, keyToksAll]
    rw [lex_atom (by simp)]
    decide
  | n, m, d :: ds, e :: es, h, he, ha => by
    simp only [D.pyL, alikeAll, Bool.and_eq_true] at ha
    simp only [D.pyL, D.ltL]
    have q := eq_py n m d e (h d (by simp)) (he e (by simp))
    by_cases hq : D.eq d e = true
    · rw [dataLt_all_yes ha.1 (q.trans hq), if_pos hq]
      exact ltL_py n m ds es (fun x hx => h x (by simp [hx])) (fun x hx => he x (by simp [hx])) ha.2
    · have hq' : D.eq d e = false := by simpa using hq
      rw [dataLt_all_no ha.1 (q.trans hq'), if_neg hq]
      exact lt_py n m d e (h d (by simp)) (he e (by simp)) ha.1
end
end Fw
set_option Elab.async false
set_option linter.all false
set_option maxRecDepth 100000
set_option maxHeartbeats 4000000
namespace Fw
open PySem PySem.Spec PyProof.Rows L2

/-! ### operators by data -/
section
variable (X : Cx)
/-- what is wanted of a result -/
def PostO (H : Hp) (o : Option R) (Q : VK) : Prop := match o with
  | some (.v d) => ∀ v H', Same H H' → Dr X.K X.mg H' v d → Q v H'
  | some (.fr d) => ∀ a H', Same H H' → H a = none → MuC X.K X.mg H' a d → Q (.ref a) H'
  | _ => False
abbrev Rd' (H : Hp) (v : V) (d : D) : Prop := Rb X.K X.mg H v d
structure OpD (f : Value → Value → Sem Value) (g : D → D → Option R) : Prop where
  ex : ∃ r : R2, OpR X f r ∧ ∀ H x y d e Q, Lim X.K H → Rd' X H x d → Rd' X H y e → PostO X H (g d e) Q → r x y H Q
structure IxD (g : D → D → Option R) : Prop where
  ex : ∃ r : R2, IxR X r ∧ ∀ H x y d e Q, Lim X.K H → Rd' X H x d → Rd' X H y e → PostO X H (g d e) Q → r x y H Q
inductive RbL (H : Hp) : List V → List D → Prop
  | nil : RbL H [] []
  | cons {v vs d ds} : Rd' X H v d → RbL H vs ds → RbL H (v :: vs) (d :: ds)
structure CallD (f : Value) (g : List D → Option R) : Prop where
  ex : ∃ r : List V → Hp → VK → Prop, CallR X f r ∧ ∀ H xs ds Q, Lim X.K H → RbL X H xs ds → PostO X H (g ds) Q → r xs H Q
end
def orG (g1 g2 : D → D → Option R) : D → D → Option R := fun d e => match g1 d e with
  | some r => some r
  | none => g2 d e
def orC (g1 g2 : List D → Option R) : List D → Option R := fun ds => match g1 ds with
  | some r => some r
  | none => g2 ds

section
variable {X : Cx} {H : Hp}
theorem Rb.lst {v : V} {ds : List D} (h : Rd' X H v (.lst ds)) : ∃ a xs, v = .ref a ∧ SqL X.K H a xs ∧ DrL X.K X.mg H xs ds := by
  rcases h with h | ⟨a, e, m⟩
  · cases h with
    | lst q t => exact ⟨_, _, rfl, q.sq, t⟩
  · obtain ⟨xs, q, t⟩ := m
    exact ⟨a, xs, e, SqL.of q, t⟩
theorem Rb.tup {v : V} {ds : List D} (h : Rd' X H v (.tup ds)) : ∃ a xs, v = .ref a ∧ SqT X.K H a xs ∧ DrL X.K X.mg H xs ds := by
  rcases h with h | ⟨a, e, m⟩
  · cases h with
    | tup q t => exact ⟨_, _, rfl, q, t⟩
  · exact m.elim
theorem Rb.int {v : V} {i : Int} (h : Rd' X H v (.int i)) : v = .int i := by
  rcases h with h | ⟨a, e, m⟩
  · cases h; rfl
  · exact m.elim
theorem Rb.bl {v : V} {i : Bool} (h : Rd' X H v (.bl i)) : v = .bl i := by
  rcases h with h | ⟨a, e, m⟩
  · cases h; rfl
  · exact m.elim
theorem Rb.str {v : V} {i : Str} (h : Rd' X H v (.str i)) : v = .str i := by
  rcases h with h | ⟨a, e, m⟩
  · cases h; rfl
  · exact m.elim
theorem Rb.non {v : V} (h : Rd' X H v .non) : v = .non := by
  rcases h with h | ⟨a, e, m⟩
  · cases h; rfl
  · exact m.elim
theorem Rb.fn {v : V} {x : Str} (h : Rd' X H v (.fn x)) : ∃ f, v = .ref f ∧ X.mg x = some (.ref f) := by
  rcases h with h | ⟨a, e, m⟩
  · cases h with
    | fn q => exact ⟨_, rfl, q⟩
  · exact m.elim
mutual
theorem Dr.dp : ∀ (n : Nat) (v : V) (d : D), Dr X.K X.mg H v d → d.fit n = true → Dp X.K H v d.py
  | n, _, .non, h, _ => by cases h; exact .non
  | n, _, .bl _, h, _ => by cases h; exact .bl _
  | n, _, .int _, h, _ => by cases h; exact .int _
  | n, _, .str _, h, _ => by cases h; exact .str _
  | 0, _, .tup xs, h, f => by simp [D.fit] at f
  | n + 1, _, .tup xs, h, f => by
    cases h with
    | tup q t => exact .tup q (DrL.dp n _ xs t (by simpa [D.fit] using f))
  | 0, _, .lst xs, h, f => by simp [D.fit] at f
  | n + 1, _, .lst xs, h, f => by
    cases h with
    | lst q t => exact .lst q.sq (DrL.dp n _ xs t (by simpa [D.fit] using f))
  | n, _, .dic _ _, h, f => by simp [D.fit] at f
  | n, _, .fn _, h, f => by simp [D.fit] at f
theorem DrL.dp : ∀ (n : Nat) (vs : List V) (ds : List D), DrL X.K X.mg H vs ds → (∀ d ∈ ds, d.fit n = true) → DpAll X.K H vs (D.pyL ds)
  | n, _, [], h, _ => by cases h; exact .nil
  | n, _, d :: ds, h, f => by
    cases h with
    | cons r t => exact .cons (Dr.dp n _ d r (f d (by simp))) (DrL.dp n _ ds t fun x hx => f x (by simp [hx]))
end
theorem Rb.dp {n : Nat} {v : V} {d : D} (h : Rd' X H v d) (f : d.fit n = true) : Dp X.K H v d.py := by
  rcases h with h | ⟨a, e, m⟩
  · exact Dr.dp n v d h f
  · cases d with
    | lst xs =>
      obtain ⟨vs, q, t⟩ := m
      subst e
      cases n with
      | zero => simp [D.fit] at f
      | succ n => exact .lst (SqL.of q) (DrL.dp n _ xs t (by simpa [D.fit] using f))
    | dic _ _ => simp [D.fit] at f
    | _ => exact m.elim
theorem OpR.or {f : Value → Value → Sem Value} {r r' : R2} (h : OpR X f r) (h' : OpR X f r') : OpR X f (fun x y H Q => r x y H Q ∨ r' x y H Q) := by
  intro pins s σ H x y v u Q I rx ry q
  rcases q with q | q
  · exact h pins s σ H x y v u Q I rx ry q
  · exact h' pins s σ H x y v u Q I rx ry q
theorem CallR.or {f : Value} {r r' : List V → Hp → VK → Prop} (h : CallR X f r) (h' : CallR X f r') : CallR X f (fun x H Q => r x H Q ∨ r' x H Q) := by
  intro pins s σ H x u Q I rx q
  rcases q with q | q
  · exact h pins s σ H x u Q I rx q
  · exact h' pins s σ H x u Q I rx q
theorem OpD.or {f : Value → Value → Sem Value} {g g' : D → D → Option R} (h : OpD X f g) (h' : OpD X f g') : OpD X f (orG g g') := by
  obtain ⟨r, o, k⟩ := h.ex
  obtain ⟨r', o', k'⟩ := h'.ex
  refine ⟨_, OpR.or o o', fun H x y d e Q l hx hy p => ?_⟩
  unfold orG at p
  cases q : g d e with
  | some z => rw [q] at p; exact .inl (k H x y d e Q l hx hy (by rw [q]; exact p))
  | none => rw [q] at p; exact .inr (k' H x y d e Q l hx hy p)
theorem IxD.or {g g' : D → D → Option R} (h : IxD X g) (h' : IxD X g') : IxD X (orG g g') := by
  obtain ⟨r, o, k⟩ := h.ex
  obtain ⟨r', o', k'⟩ := h'.ex
  refine ⟨_, IxR.or o o', fun H x y d e Q l hx hy p => ?_⟩
  unfold orG at p
  cases q : g d e with
  | some z => rw [q] at p; exact .inl (k H x y d e Q l hx hy (by rw [q]; exact p))
  | none => rw [q] at p; exact .inr (k' H x y d e Q l hx hy p)
theorem CallD.or {f : Value} {g g' : List D → Option R} (h : CallD X f g) (h' : CallD X f g') : CallD X f (orC g g') := by
  obtain ⟨r, o, k⟩ := h.ex
  obtain ⟨r', o', k'⟩ := h'.ex
  refine ⟨_, CallR.or o o', fun H x d Q l hx p => ?_⟩
  unfold orC at p
  cases q : g d with
  | some z => rw [q] at p; exact .inl (k H x d Q l hx (by rw [q]; exact p))
  | none => rw [q] at p; exact .inr (k' H x d Q l hx p)
/-- a rule that leaves the heap as it is -/
theorem OpD.still {f : Value → Value → Sem Value} {r : R2} {g : D → D → Option R} (o : OpR X f r) (k : ∀ H x y d e Q, Lim X.K H → Rd' X H x d → Rd' X H y e → PostO X H (g d e) Q → r x y H Q) : OpD X f g := ⟨r, o, k⟩
theorem same_new {p : Addr} {o : HO} (h : H p = none) : Same H (upd H p o) := fun b x e => by
  rw [upd_ne (ne_of_none e h)]; exact e

/-! ### whole numbers -/
def addI : D → D → Option R
  | .int i, .int j => some (.v (.int (i + j)))
  | _, _ => none
def subI : D → D → Option R
  | .int i, .int j => some (.v (.int (i - j)))
  | _, _ => none
/-- sizes of whole numbers -/
def bitsOf (i : Int) : Nat := i.natAbs.log2
def mulI : D → D → Option R
  | .int i, .int j => if bitsOf i + bitsOf j < 1000000 then some (.v (.int (i * j))) else none
  | _, _ => none
def fdivI : D → D → Option R
  | .int i, .int j => if j ≠ 0 ∧ bitsOf j < 9000 then some (.v (.int (i.fdiv j))) else none
  | _, _ => none
def modI : D → D → Option R
  | .int i, .int j => if j ≠ 0 then some (.v (.int (i.fmod j))) else none
  | _, _ => none
def powI : D → D → Option R
  | .int i, .int j => if 0 ≤ j ∧ j ≤ 1000 ∧ i.natAbs < 2 ^ 64 then some (.v (.int (i ^ j.toNat))) else none
  | _, _ => none
def cmpI (p : Int → Int → Bool) : D → D → Option R
  | .int i, .int j => some (.v (.bl (p i j)))
  | _, _ => none
theorem intRule {f : Value → Value → Sem Value} {r : R2} {g : D → D → Option R} {C : Int → Int → Prop} {z : Int → Int → D} {vz : Int → Int → V} (o : OpR X f r) (hr : ∀ i j H Q, C i j → Q (vz i j) H → r (.int i) (.int j) H Q)
    (hz : ∀ i j H, Dr X.K X.mg H (vz i j) (z i j)) (hg : ∀ d e x, g d e = some x → ∃ i j, d = .int i ∧ e = .int j ∧ C i j ∧ x = .v (z i j)) : OpD X f g := by
  refine ⟨r, o, fun H x y d e Q l hx hy p => ?_⟩
  cases q : g d e with
  | none => rw [q] at p; exact p.elim
  | some w =>
    obtain ⟨i, j, rfl, rfl, hc, rfl⟩ := hg d e w q
    rw [q] at p
    rw [Rb.int hx, Rb.int hy]
    exact hr i j H Q hc (p _ H (Same.refl H) (hz i j H))
theorem od_addI : OpD X (binaryOp .Add) addI := intRule (C := fun _ _ => True) op_add (fun i j H Q _ q => ⟨i, j, rfl, rfl, q⟩) (fun i j H => .int _) fun d e x h => by
  cases d <;> cases e <;> first | (cases h; exact ⟨_, _, rfl, rfl, trivial, rfl⟩) | (cases h)
theorem od_subI : OpD X (binaryOp .Sub) subI := intRule (C := fun _ _ => True) op_sub (fun i j H Q _ q => ⟨i, j, rfl, rfl, q⟩) (fun i j H => .int _) fun d e x h => by
  cases d <;> cases e <;> first | (cases h; exact ⟨_, _, rfl, rfl, trivial, rfl⟩) | (cases h)
theorem od_mulI : OpD X (binaryOp .Mult) mulI := intRule (C := CMulW) op_mulW (fun i j H Q c q => ⟨i, j, rfl, rfl, c, q⟩) (fun i j H => .int _) fun d e x h => by
  cases d with
  | int i =>
    cases e with
    | int j =>
      unfold mulI at h
      simp only at h
      split at h
      · next c => cases h; exact ⟨_, _, rfl, rfl, c, rfl⟩
      · cases h
    | _ => cases h
  | _ => cases e <;> cases h
theorem op_fdivX : OpR X (binaryOp .FloorDiv) (rI (fun _ j => j ≠ 0 ∧ bitsOf j < 9000) fun i j => .int (i.fdiv j)) := opI fun i j _ _ _ _ _ hc q => floordiv_int hc.1 q (.inl (PyProof.noPylong_of_log2 hc.2))
theorem od_fdivI : OpD X (binaryOp .FloorDiv) fdivI := intRule op_fdivX (fun i j H Q c q => ⟨i, j, rfl, rfl, c, q⟩) (fun i j H => .int _) fun d e x h => by
  cases d with
  | int i =>
    cases e with
    | int j =>
      unfold fdivI at h
      simp only at h
      split at h
      · next c => cases h; exact ⟨_, _, rfl, rfl, c, rfl⟩
      · cases h
    | _ => cases h
  | _ => cases e <;> cases h
theorem od_modI : OpD X (binaryOp .Mod) modI := intRule op_modN (fun i j H Q c q => ⟨i, j, rfl, rfl, c, q⟩) (fun i j H => .int _) fun d e x h => by
  cases d with
  | int i =>
    cases e with
    | int j =>
      unfold modI at h
      simp only at h
      split at h
      · next c => cases h; exact ⟨_, _, rfl, rfl, c, rfl⟩
      · cases h
    | _ => cases h
  | _ => cases e <;> cases h
theorem od_powI : OpD X (binaryOp .Pow) powI := intRule op_pow (fun i j H Q c q => ⟨i, j, rfl, rfl, c, q⟩) (fun i j H => .int _) fun d e x h => by
  cases d with
  | int i =>
    cases e with
    | int j =>
      unfold powI at h
      simp only at h
      split at h
      · next c => cases h; exact ⟨_, _, rfl, rfl, ⟨c.1, by omega, c.2.2⟩, rfl⟩
      · cases h
    | _ => cases h
  | _ => cases e <;> cases h
theorem cmpRule {f : Value → Value → Sem Value} {p : Int → Int → Bool} (o : OpR X f (rI0 fun i j => .bl (p i j))) : OpD X f (cmpI p) := intRule (C := fun _ _ => True) o (fun i j H Q _ q => ⟨i, j, rfl, rfl, q⟩) (fun i j H => .bl _) fun d e x h => by
  cases d <;> cases e <;> first | (cases h; exact ⟨_, _, rfl, rfl, trivial, rfl⟩) | (cases h)
theorem od_ltI : OpD X (compareOp .Lt) (cmpI fun i j => decide (i < j)) := cmpRule op_lt
theorem od_leI : OpD X (compareOp .LtE) (cmpI fun i j => decide (i ≤ j)) := cmpRule op_le
theorem od_gtI : OpD X (compareOp .Gt) (cmpI fun i j => decide (j < i)) := cmpRule op_gt
theorem od_geI : OpD X (compareOp .GtE) (cmpI fun i j => decide (j ≤ i)) := cmpRule op_ge

/-! ### texts, tuples, lists: + and * -/
def addS : D → D → Option R
  | .str i, .str j => if i.length + j.length ≤ sizeLine then some (.v (.str (i ++ j))) else none
  | _, _ => none
def addT : D → D → Option R
  | .tup xs, .tup ys => if xs.length + ys.length ≤ sizeLine then some (.v (.tup (xs ++ ys))) else none
  | _, _ => none
def addL : D → D → Option R
  | .lst xs, .lst ys => if xs.length + ys.length ≤ sizeLine then some (.fr (.lst (xs ++ ys))) else none
  | _, _ => none
theorem od_addS : OpD X (binaryOp .Add) addS := by
  refine ⟨_, op_add_str, fun H x y d e Q l hx hy p => ?_⟩
  cases d with
  | str i =>
    cases e with
    | str j =>
      unfold addS at p
      simp only at p
      split at p
      · next c => rw [Rb.str hx, Rb.str hy]; exact ⟨i, j, rfl, rfl, c, p _ H (Same.refl H) (.str _)⟩
      · exact p.elim
    | _ => exact p.elim
  | _ => cases e <;> exact p.elim
theorem od_addT : OpD X (binaryOp .Add) addT := by
  refine ⟨_, op_catA, fun H x y d e Q l hx hy p => ?_⟩
  cases d with
  | tup xs =>
    cases e with
    | tup ys =>
      unfold addT at p
      simp only at p
      split at p
      · next c =>
        obtain ⟨a, vs, rfl, q1, t1⟩ := Rb.tup hx
        obtain ⟨b, us, rfl, q2, t2⟩ := Rb.tup hy
        refine ⟨a, b, vs, us, rfl, rfl, q1, q2, by rw [t1.length, t2.length]; exact c, fun z => ?_, fun z z2 => ?_, fun z z2 c hc => ?_⟩
        · subst z; cases t1; exact p _ H (Same.refl H) (.tup q2 t2)
        · subst z2; cases t2; rw [List.append_nil] at p; exact p _ H (Same.refl H) (.tup q1 t1)
        · exact p _ _ (same_new hc) (.tup (.inl (.inl upd_same)) ((t1.append t2).mo (Mo.same (same_new hc))))
      · exact p.elim
    | _ => exact p.elim
  | _ => cases e <;> exact p.elim
def rCatL (K : PySem.W.Frag) : R2 := fun x y H Q => ∃ l b xs zs, x = .ref l ∧ y = .ref b ∧ SqL K H l xs ∧ SqL K H b zs ∧ xs.length + zs.length ≤ sizeLine ∧ ∀ p, H p = none → Q (.ref p) (upd H p (.lst (xs ++ zs)))
theorem plain_get {h : Heap} {a : Addr} {its : Array Value} (p : PlainL h a its) : ∃ n dd sl, h.get? a = some { cls := .type "list", dict := dd, data := .seq its n, slots := sl } := by
  obtain ⟨⟨cls, dd, data, sl⟩, n, e, h1, h2, h3⟩ := p
  simp only at h1 h2 h3
  subst h1 h2 h3
  exact ⟨n, _, sl, e⟩
end
end Fw
set_option Elab.async false
set_option linter.all false
set_option maxRecDepth 100000
set_option maxHeartbeats 4000000
namespace Fw
open PySem PySem.Spec PyProof.Rows L2

/-- how deep data may be -/
abbrev deep : Nat := 50
section
variable {X : Cx} {pins : List (Addr × Obj)} {σ : L2.St} {H : Hp} {s : Shared}
theorem Rb.reads (I : Inv X pins σ H s) {n : Nat} {v : V} {u : Value} {d : D} (h : Rd' X H v d) (f : d.fit n = true) (r : RelV v u) : ∃ as, Reads s.heap u d.py as := Dp.reads I d.py v u (Rb.dp h f) r
theorem fit_plain {n : Nat} {d : D} (f : d.fit n = true) : d.py.plain = true := PyData.plain_of_canLay0 _ (lay_py n d f).1
theorem room_fit {A : Around} {d e : D} (f : d.fit deep = true) (hu : A.units + 64 < cLine) : A.units + min d.py.depth e.py.depth < cLine := by
  have h := (lay_py deep d f).2
  have h2 : min d.py.depth e.py.depth ≤ d.py.depth := Nat.min_le_left _ _
  have h3 : deep = 50 := rfl
  omega
theorem room_fit1 {A : Around} {x : Nat} {d : D} (f : d.fit deep = true) (hu : A.units + 64 < cLine) : A.units + 1 + min x d.py.depth < cLine := by
  have h := (lay_py deep d f).2
  have h2 : min x d.py.depth ≤ d.py.depth := Nat.min_le_right _ _
  have h3 : deep = 50 := rfl
  omega
end
def eqG : D → D → Option R := fun d e => if d.fit deep && e.fit deep then some (.v (.bl (D.eq d e))) else none
def neG : D → D → Option R := fun d e => if d.fit deep && e.fit deep then some (.v (.bl (!D.eq d e))) else none
/-- the answer of an order of alike data -/
def ltT (t : Ty) : D → D → Option R := fun d e => match d with
  | .non => none
  | _ => if t.has d && t.has e && decide (t.dep ≤ deep) then some (.v (.bl (D.lt d e))) else none
def inG : D → D → Option R := fun d e => match e with
  | .lst xs => if d.fit deep && xs.all (D.fit deep) then some (.v (.bl (xs.any fun y => D.eq y d))) else none
  | .tup xs => if d.fit deep && xs.all (D.fit deep) then some (.v (.bl (xs.any fun y => D.eq y d))) else none
  | _ => none
def ninG : D → D → Option R := fun d e => match e with
  | .lst xs => if d.fit deep && xs.all (D.fit deep) then some (.v (.bl (!xs.any fun y => D.eq y d))) else none
  | .tup xs => if d.fit deep && xs.all (D.fit deep) then some (.v (.bl (!xs.any fun y => D.eq y d))) else none
  | _ => none
def isNon : D → Bool
  | .non => true
  | _ => false
def isG : D → D → Option R := fun d e => match e with
  | .non => some (.v (.bl (isNon d)))
  | _ => none
def isntG : D → D → Option R := fun d e => match e with
  | .non => some (.v (.bl (!isNon d)))
  | _ => none
def isB : D → D → Option R
  | .bl a, .bl b => some (.v (.bl (a == b)))
  | _, _ => none
def isntB : D → D → Option R
  | .bl a, .bl b => some (.v (.bl (!(a == b))))
  | _, _ => none

section
variable {X : Cx}
def rD (g : D → D → Option R) : R2 := fun x y H Q => ∃ d e, Rd' X H x d ∧ Rd' X H y e ∧ ∃ b, g d e = some (.v (.bl b)) ∧ Q (.bl b) H
/-- an operator that says yes or no of data -/
theorem OpD.says {f : Value → Value → Sem Value} {g : D → D → Option R} (hb : ∀ d e x, g d e = some x → ∃ b, x = .v (.bl b))
    (rule : ∀ (pins : List (Addr × Obj)) (s : Shared) (σ : L2.St) (H : Hp) (x y : V) (v u : Value) (d e : D) (b : Bool) (Q : Value → Shared → Prop), Inv X pins σ H s → RelV x v → RelV y u → Rd' X H x d → Rd' X H y e → g d e = some (.v (.bl b)) → Q (.bool b) s →
      wpAny (model X.prog X.w) X.A (f v u) Q X.xe s) : OpD X f g := by
  refine ⟨rD (X := X) g, ?_, fun H x y d e Q l hx hy p => ?_⟩
  · intro pins s σ H x y v u Q I rx ry h
    obtain ⟨d, e, hx, hy, b, hg, q⟩ := h
    exact rule pins s σ H x y v u d e b _ I rx ry hx hy hg ⟨.bl b, H, I, rfl, q⟩
  · cases q : g d e with
    | none => rw [q] at p; exact p.elim
    | some w =>
      obtain ⟨b, rfl⟩ := hb d e w q
      rw [q] at p
      exact ⟨d, e, hx, hy, b, q, p _ H (Same.refl H) (.bl b)⟩
theorem od_eqG (hu : X.A.units + 64 < cLine) : OpD X (compareOp .Eq) eqG := OpD.says (fun d e x h => by
    unfold eqG at h
    split at h
    · cases h; exact ⟨_, rfl⟩
    · cases h) fun pins s σ H x y v u d e b Q I rx ry hx hy hg q => by
  unfold eqG at hg
  split at hg
  · next c =>
    rw [Bool.and_eq_true] at c
    cases hg
    obtain ⟨as, r1⟩ := Rb.reads I hx c.1 rx
    obtain ⟨bs, r2⟩ := Rb.reads I hy c.2 ry
    exact SeqAt.eq_plain r1 r2 (fit_plain c.1) (fit_plain c.2) (room_fit c.1 hu) (by rw [eq_py _ _ d e c.1 c.2]; exact q)
  · cases hg
theorem od_neG (hu : X.A.units + 64 < cLine) : OpD X (compareOp .NotEq) neG := OpD.says (fun d e x h => by
    unfold neG at h
    split at h
    · cases h; exact ⟨_, rfl⟩
    · cases h) fun pins s σ H x y v u d e b Q I rx ry hx hy hg q => by
  unfold neG at hg
  split at hg
  · next c =>
    rw [Bool.and_eq_true] at c
    cases hg
    obtain ⟨as, r1⟩ := Rb.reads I hx c.1 rx
    obtain ⟨bs, r2⟩ := Rb.reads I hy c.2 ry
    exact SeqAt.ne_plain r1 r2 (fit_plain c.1) (fit_plain c.2) (room_fit c.1 hu) (by rw [eq_py _ _ d e c.1 c.2]; exact q)
  · cases hg
theorem od_ltT (t : Ty) (hu : X.A.units + 64 < cLine) : OpD X (compareOp .Lt) (ltT t) := OpD.says (fun d e x h => by
    unfold ltT at h
    cases d <;> (simp only at h; try split at h) <;> first | (cases h; done) | (cases h; exact ⟨_, rfl⟩)) fun pins s σ H x y v u d e b Q I rx ry hx hy hg q => by
  have hn : d ≠ .non := fun z => by subst z; cases hg
  have hg : (if t.has d && t.has e && decide (t.dep ≤ deep) then some (R.v (.bl (D.lt d e))) else none) = some (.v (.bl b)) := by
    cases d <;> first | exact hg | exact absurd rfl hn
  split at hg
  · next c =>
    rw [Bool.and_eq_true, Bool.and_eq_true, decide_eq_true_eq] at c
    obtain ⟨⟨c1, c2⟩, c3⟩ := c
    cases hg
    have f1 := fit_mono (has_fit t d c1) c3
    have f2 := fit_mono (has_fit t e c2) c3
    obtain ⟨as, r1⟩ := Rb.reads I hx f1 rx
    obtain ⟨bs, r2⟩ := Rb.reads I hy f2 ry
    refine PySem.W.lt_data r1 r2 (has_alike t d e c1 c2) (fun z => hn ?_) (room_fit f1 hu) (by rw [lt_py _ _ d e f1 f2 (has_alike t d e c1 c2)]; exact q)
    cases d <;> first | rfl | cases z
  · cases hg
theorem any_py (d : D) (hd : d.fit deep = true) : ∀ xs : List D, (∀ x ∈ xs, x.fit deep = true) → ((D.pyL xs).any fun y => PyData.eqv y d.py) = xs.any fun y => D.eq y d
  | [], _ => rfl
  | x :: xs, h => by
    rw [D.pyL, List.any_cons, List.any_cons, eq_py _ _ x d (h x (by simp)) hd, any_py d hd xs fun y hy => h y (by simp [hy])]
theorem plainL {n : Nat} (xs : List D) (h : ∀ x ∈ xs, x.fit n = true) : PyData.plainAll (D.pyL xs) = true := PyData.plainAll_of_canLay0 _ (layL_py n xs h).1
theorem od_inG (hu : X.A.units + 64 < cLine) : OpD X (compareOp .In) inG := OpD.says (fun d e x h => by
    unfold inG at h
    cases e <;> simp only at h <;> first | (cases h; done) | (split at h <;> first | (cases h; done) | (cases h; exact ⟨_, rfl⟩))) fun pins s σ H x y v u d e b Q I rx ry hx hy hg q => by
  unfold inG at hg
  cases e with
  | lst xs =>
    simp only at hg
    split at hg
    · next c =>
      simp only [Bool.and_eq_true, List.all_eq_true] at c
      cases hg
      obtain ⟨as, r1⟩ := Rb.reads I hx c.1 rx
      obtain ⟨bs, r2⟩ := Rb.reads (n := deep + 1) I hy (by simpa [D.fit] using c.2) ry
      exact SeqAt.in_list_data r2 r1 (plainL xs c.2) (fit_plain c.1) (room_fit1 c.1 hu) (by rw [any_py d c.1 xs c.2]; exact q)
    · cases hg
  | tup xs =>
    simp only at hg
    split at hg
    · next c =>
      simp only [Bool.and_eq_true, List.all_eq_true] at c
      cases hg
      obtain ⟨as, r1⟩ := Rb.reads I hx c.1 rx
      obtain ⟨bs, r2⟩ := Rb.reads (n := deep + 1) I hy (by simpa [D.fit] using c.2) ry
      exact SeqAt.in_tuple_data r2 r1 (plainL xs c.2) (fit_plain c.1) (room_fit1 c.1 hu) (by rw [any_py d c.1 xs c.2]; exact q)
    · cases hg
  | _ => cases hg
theorem od_ninG (hu : X.A.units + 64 < cLine) : OpD X (compareOp .NotIn) ninG := OpD.says (fun d e x h => by
    unfold ninG at h
    cases e <;> simp only at h <;> first | (cases h; done) | (split at h <;> first | (cases h; done) | (cases h; exact ⟨_, rfl⟩))) fun pins s σ H x y v u d e b Q I rx ry hx hy hg q => by
  unfold ninG at hg
  cases e with
  | lst xs =>
    simp only at hg
    split at hg
    · next c =>
      simp only [Bool.and_eq_true, List.all_eq_true] at c
      cases hg
      obtain ⟨as, r1⟩ := Rb.reads I hx c.1 rx
      obtain ⟨bs, r2⟩ := Rb.reads (n := deep + 1) I hy (by simpa [D.fit] using c.2) ry
      exact SeqAt.notIn_list_data r2 r1 (plainL xs c.2) (fit_plain c.1) (room_fit1 c.1 hu) (by rw [any_py d c.1 xs c.2]; exact q)
    · cases hg
  | tup xs =>
    simp only at hg
    split at hg
    · next c =>
      simp only [Bool.and_eq_true, List.all_eq_true] at c
      cases hg
      obtain ⟨as, r1⟩ := Rb.reads I hx c.1 rx
      obtain ⟨bs, r2⟩ := Rb.reads (n := deep + 1) I hy (by simpa [D.fit] using c.2) ry
      exact SeqAt.notIn_tuple_data r2 r1 (plainL xs c.2) (fit_plain c.1) (room_fit1 c.1 hu) (by rw [any_py d c.1 xs c.2]; exact q)
    · cases hg
  | _ => cases hg
theorem Rb.non_iff {H : Hp} {v : V} {d : D} (h : Rd' X H v d) : decide (v = .non) = isNon d := by
  rcases h with h | ⟨a, e, m⟩
  · cases h <;> simp [isNon]
  · subst e
    cases d <;> first | (exact m.elim) | simp [isNon]
theorem od_isG : OpD X (compareOp .Is) isG := ⟨_, op_isN, fun H x y d e Q l hx hy p => by
  cases e with
  | non => exact ⟨Rb.non hy, by rw [Rb.non_iff hx]; exact p _ H (Same.refl H) (.bl _)⟩
  | _ => exact p.elim⟩
theorem od_isntG : OpD X (compareOp .IsNot) isntG := ⟨_, op_notN, fun H x y d e Q l hx hy p => by
  cases e with
  | non => exact ⟨Rb.non hy, by rw [Rb.non_iff hx]; exact p _ H (Same.refl H) (.bl _)⟩
  | _ => exact p.elim⟩
theorem dec_beq (a b : Bool) : decide (a = b) = (a == b) := by cases a <;> cases b <;> rfl

/-! ### lists -/
theorem op_catL : OpR X (binaryOp .Add) (rCatL X.K) := by
  intro pins s σ H x y v u Q I rx ry h
  obtain ⟨l, b, xs, zs, rfl, rfl, hH, hB, hz, q⟩ := h
  cases rx
  cases ry
  obtain ⟨its, r, p, z⟩ := I.list hH
  obtain ⟨its2, r2, p2, z2⟩ := I.list hB
  have l1 := r.length
  have l2 := r2.length
  obtain ⟨n, dd, sl, e⟩ := plain_get p
  obtain ⟨n2, dd2, sl2, e2⟩ := plain_get p2
  refine PySem.concat_meets ⟨_, e, rfl⟩ ⟨_, e2, rfl⟩ noFill_list_add seq_list_add PySem.F.slot_list_add PySem.F.entry_list_add (PySem.F.args_list_add_2 _ _) (list_addW l b its.toArray its2.toArray n n2 dd dd2 sl sl2 (by rw [List.size_toArray, List.size_toArray]; omega)) ⟨e, e2, ?_⟩
  have ea : its.toArray ++ its2.toArray = (its ++ its2).toArray := by simp
  rw [ea]
  exact ⟨.ref _, _, I.lnew (t' := s.toks) (r.append r2) (by rw [List.length_append]; omega), rfl, q _ I.fresh⟩
theorem fr_new {H : Hp} {p : Addr} {xs : List V} {ds : List D} (hp : H p = none) (t : DrL X.K X.mg H xs ds) : MuC X.K X.mg (upd H p (.lst xs)) p (.lst ds) := ⟨xs, upd_same, t.mo (Mo.same (same_new hp))⟩
theorem od_addL : OpD X (binaryOp .Add) addL := ⟨_, op_catL, fun H x y d e Q l hx hy p => by
  cases d with
  | lst xs =>
    cases e with
    | lst ys =>
      unfold addL at p
      simp only at p
      split at p
      · next c =>
        obtain ⟨a, vs, rfl, q1, t1⟩ := Rb.lst hx
        obtain ⟨b, us, rfl, q2, t2⟩ := Rb.lst hy
        exact ⟨a, b, vs, us, rfl, rfl, q1, q2, by rw [t1.length, t2.length]; exact c, fun c hc => p c _ (same_new hc) hc (fr_new hc (t1.append t2))⟩
      · exact p.elim
    | _ => exact p.elim
  | _ => cases e <;> exact p.elim⟩
/-- tuple * int -/
def mulT : D → D → Option R
  | .tup xs, .int k => if xs ≠ [] ∧ 2 ≤ k ∧ k ≤ 1000 ∧ xs.length ≤ 1000 then some (.v (.tup (List.replicate k.toNat xs).flatten)) else none
  | _, _ => none
theorem DrL.rep {H : Hp} {vs : List V} {ds : List D} (t : DrL X.K X.mg H vs ds) : ∀ n : Nat, DrL X.K X.mg H (List.replicate n vs).flatten (List.replicate n ds).flatten
  | 0 => .nil
  | n + 1 => by
    rw [List.replicate_succ, List.replicate_succ, List.flatten_cons, List.flatten_cons]
    exact t.append (DrL.rep t n)
theorem od_mulT : OpD X (binaryOp .Mult) mulT := ⟨_, op_repT, fun H x y d e Q l hx hy p => by
  cases d with
  | tup xs =>
    cases e with
    | int k =>
      unfold mulT at p
      simp only at p
      split at p
      · next c =>
        obtain ⟨a, vs, rfl, q1, t1⟩ := Rb.tup hx
        rw [Rb.int hy]
        refine ⟨a, k, vs, rfl, rfl, q1, fun z => ?_, c.2.1, c.2.2.1, by rw [t1.length]; exact c.2.2.2, fun c hc => p _ _ (same_new hc) (.tup (.inl (.inl upd_same)) ((t1.rep k.toNat).mo (Mo.same (same_new hc))))⟩
        subst z
        cases t1
        exact c.1 rfl
      · exact p.elim
    | _ => exact p.elim
  | _ => cases e <;> exact p.elim⟩

/-! ### subscripts -/
def ixG : D → D → Option R := fun d e => match e with
  | .int i => match d with
    | .lst xs => (atI xs i).map .v
    | .tup xs => (atI xs i).map .v
    | _ => none
  | _ => none
theorem atI_dr {H : Hp} {vs : List V} {ds : List D} (t : DrL X.K X.mg H vs ds) {i : Int} {d : D} (h : atI ds i = some d) : ∃ v, atI vs i = some v ∧ Dr X.K X.mg H v d := by
  unfold atI at h ⊢
  rw [t.length]
  cases e : ixN ds.length i with
  | none => rw [e] at h; cases h
  | some j => rw [e] at h; exact t.get h
theorem ixd_seq : IxD X ixG := ⟨_, ix_seq, fun H x y d e Q l hx hy p => by
  cases e with
  | int i =>
    rw [Rb.int hy]
    cases d with
    | lst xs =>
      obtain ⟨a, vs, rfl, q1, t1⟩ := Rb.lst hx
      have p : PostO X H ((atI xs i).map R.v) Q := p
      cases q : atI xs i with
      | none => rw [q] at p; exact p.elim
      | some d =>
        rw [q] at p
        obtain ⟨v, e, r⟩ := atI_dr t1 q
        exact .inl ⟨a, vs, i, v, rfl, rfl, q1, e, p v H (Same.refl H) r⟩
    | tup xs =>
      obtain ⟨a, vs, rfl, q1, t1⟩ := Rb.tup hx
      have p : PostO X H ((atI xs i).map R.v) Q := p
      cases q : atI xs i with
      | none => rw [q] at p; exact p.elim
      | some d =>
        rw [q] at p
        obtain ⟨v, e, r⟩ := atI_dr t1 q
        exact .inr (.inl ⟨a, vs, i, v, rfl, rfl, q1, e, p v H (Same.refl H) r⟩)
    | _ => exact p.elim
  | _ => exact p.elim⟩
end
end Fw
set_option Elab.async false
set_option linter.all false
set_option maxRecDepth 100000
set_option maxHeartbeats 4000000
namespace Fw
open PySem PySem.Spec PyProof.Rows L2

section
variable {K : PySem.W.Frag} {mg : Str → Option Value} {σ : L2.St} {H H1 : Hp} {en en1 : En}
/-- a piece from here, then a further one -/
theorem PostG.bindAt {α β γ δ : Type} {W : WX} {rel1 : Hp → En → β → α → Prop} {rel2 : Hp → En → δ → γ → Prop} {m : M α} {f : α → M γ} {Q1 : β → Hp → Prop} {Q : δ → Hp → Prop} (st : Stp K mg σ H en σ H1 en1)
    (h : PostG K mg W σ H en rel2 ((M.bnd m f) en1) Q)
    (k : ∀ a en2 b H2, m en1 = .ok a en2 → Lim K H2 → Stp K mg σ H1 en1 σ H2 en2 → rel1 H2 en2 b a → PostG K mg W σ H en rel2 (f a en2) Q → Q1 b H2) : PostG K mg W σ H1 en1 rel1 (m en1) Q1 := by
  unfold M.bnd at h
  cases e : m en1 with
  | ok a en2 => rw [e] at h; exact fun b H2 l s r => k a en2 b H2 e l s r h
  | err x en2 => rw [e] at h; exact fun cls d H' s x => h cls d H' (st.trans s) x
  | bad => rw [e] at h; exact h
end

def varM (i : Nat) : M R := fun en => match en[i]? with
  | some (.v d) => .ok (.v d) en
  | some (.mu _ _) => .ok (.al i) en
  | _ => .bad
def litM (d : D) : M R := fun en => .ok (.v d) en
def liftO (o : Option R) : M R := fun en => match o with
  | some (.v d) => .ok (.v d) en
  | some (.fr d) => .ok (.fr d) en
  | _ => .bad
def peek2 (g : D → D → Option R) (r s : R) : M R := fun en => match peek en r, peek en s with
  | some d, some e => liftO (g d e) en
  | _, _ => .bad
def bin2 (g : D → D → Option R) (a b : M R) : M R := M.bnd a fun r => M.bnd b fun s => peek2 g r s
def un1 (g : D → Option R) (a : M R) : M R := M.bnd a fun r en => match peek en r with
  | some d => liftO (g d) en
  | none => .bad
/-- a result that is a truth value -/
def asB (r : R) : M Bool := fun en => match r with
  | .v (.bl b) => .ok b en
  | _ => .bad
def toB (m : M R) : M Bool := M.bnd m asB
def ifM {α : Type} (c : M Bool) (a b : M α) : M α := M.bnd c fun k => if k then a else b
def andM (a b : M Bool) : M Bool := M.bnd a fun k => if k then b else fun en => .ok false en
def orM (a b : M Bool) : M Bool := M.bnd a fun k => if k then fun en => .ok true en else b
def notM (a : M Bool) : M Bool := M.bnd a fun k en => .ok (!k) en
def andV (a b : M R) : M R := M.bnd (toB a) fun k => if k then b else litM (.bl false)
def orV (a b : M R) : M R := M.bnd (toB a) fun k => if k then litM (.bl true) else b
def notV (a : M R) : M R := M.bnd (toB a) fun k => litM (.bl (!k))
def ofB (m : M Bool) : M R := M.bnd m fun b => litM (.bl b)
def nilA : M (List R) := fun en => .ok [] en
def consA (a : M R) (b : M (List R)) : M (List R) := M.bnd a fun r => M.bnd b fun rs en => .ok (r :: rs) en
def nilV : M (List D) := fun en => .ok [] en
def consV (a : M D) (b : M (List D)) : M (List D) := M.bnd a fun r => M.bnd b fun rs en => .ok (r :: rs) en
def tupM (a : M (List D)) : M R := M.bnd a fun ds en => if ds.length ≤ sizeLine then .ok (.v (.tup ds)) en else .bad
def lstM (a : M (List D)) : M R := M.bnd a fun ds en => if ds.length ≤ sizeLine then .ok (.fr (.lst ds)) en else .bad
def peekL (en : En) : List R → Option (List D)
  | [] => some []
  | r :: rs => match peek en r, peekL en rs with
    | some d, some ds => some (d :: ds)
    | _, _ => none
def callM (g : List D → Option R) (a : M (List R)) : M R := M.bnd a fun rs en => match peekL en rs with
  | some ds => liftO (g ds) en
  | none => .bad

section
variable {X : Cx} {W : WX} {a b c e : Expr} {es : List Expr} {pos : Pos} {fa fb fc : M R} {f f2 : M Bool} {fs : M (List R)} {gs : M (List D)}
theorem PostG.ofO {σ : L2.St} {H H2 : Hp} {en en2 : En} {o : Option R} {Q : VK} (st : Stp X.K X.mg σ H en σ H2 en2) (p : PostG X.K X.mg W σ H en (relR X σ H en) (liftO o en2) Q) : PostO X H2 o (fun v H' => Lim X.K H' → Q v H') := by
  cases o with
  | none => exact p
  | some r =>
    cases r with
    | v d => exact fun v H' sm dr l => p v H' l (st.trans (Stp.same st.er sm)) dr
    | al i => exact p
    | fr d =>
      intro a H' sm hn m l
      refine p (.ref a) H' l (st.trans (Stp.same st.er sm)) ⟨a, rfl, m, fun z => ?_, ?_⟩
      · obtain ⟨u, hu, _⟩ := st.er.there z
        rw [hn] at hu; cases hu
      · by_cases z : MA σ en a
        · exact .inl z
        · cases q : H a with
          | none => exact .inr rfl
          | some u => rw [st.fr a u q z] at hn; cases hn

/-! names and constants -/
theorem de_var (i : Nat) {x : Str} (hN : X.N[i]? = some x := by rfl) (hv : Vis X.env.scope x := by first | exact Or.inl rfl | exact Or.inr (Or.inl rfl) | exact Or.inr (Or.inr rfl)) (hd : (x == ("__debug__" : Str)) = false := by decide)
    (hcd : (x == ("__classdict__" : Str)) = false := by decide) : DE X W (.Name x pos) (varM i) := by
  refine DE.mk' (pe_var hN hv hd hcd) fun σ H en Q l E post => ?_
  unfold varM at post
  split at post
  · next d h =>
    obtain ⟨v, q, r⟩ := E.val i d h
    exact ⟨v, q, fun l' => post v H l' (Stp.refl E) r⟩
  · next k d h =>
    obtain ⟨a, q, r⟩ := E.mu i k d h
    exact ⟨.ref a, q, fun l' => post (.ref a) H l' (Stp.refl E) q⟩
  · exact post.elim
theorem de_lit {v : V} {d : D} (p : PE X e (tC v)) (r : ∀ H, Dr X.K X.mg H v d) : DE X W e (litM d) := DE.mk' p fun σ H en Q l E post l' => post v H l' (Stp.refl E) (r H)
theorem de_int {i j} : DE X W (.Constant (.int i) j pos) (litM (.int i)) := de_lit pe_int fun _ => .int _
theorem de_bl {i j} : DE X W (.Constant (.bool i) j pos) (litM (.bl i)) := de_lit pe_bl fun _ => .bl _
theorem de_non {j} : DE X W (.Constant .none j pos) (litM .non) := de_lit pe_non fun _ => .non
theorem de_str {i j} : DE X W (.Constant (.str i) j pos) (litM (.str i)) := de_lit pe_str fun _ => .str _
/-- a module's name that holds a number, a text; a def -/
theorem de_globI {x : Str} {i : Int} (hg : Gl X x) (hm : ∃ t, X.mg x = some (.int i t)) (hd : (x == ("__debug__" : Str)) = false := by decide) : DE X W (.Name x pos) (litM (.int i)) := by
  obtain ⟨t, hm⟩ := hm
  exact de_lit (pe_glob hg hm (show RelV (.int i) (.int i t) from ⟨t, rfl⟩) hd) fun _ => .int _
theorem de_globS {x y : Str} (hg : Gl X x) (hm : ∃ t, X.mg x = some (.str y t)) (hd : (x == ("__debug__" : Str)) = false := by decide) : DE X W (.Name x pos) (litM (.str y)) := by
  obtain ⟨t, hm⟩ := hm
  exact de_lit (pe_glob hg hm (show RelV (.str y) (.str y t) from ⟨t, rfl⟩) hd) fun _ => .str _
theorem de_globF {x : Str} {f : Addr} (hg : Gl X x) (hm : X.mg x = some (.ref f)) (hd : (x == ("__debug__" : Str)) = false := by decide) : DE X W (.Name x pos) (litM (.fn x)) :=
  de_lit (pe_glob hg hm (show RelV (.ref f) (.ref f) from rfl) hd) fun _ => .fn hm
/-- two operands -/
theorem two_posts {σ : L2.St} {H : Hp} {en : En} {Q : VK} {g : D → D → Option R} {ta tb : TE} {r : R2}
    (ka : ∀ σ H en Q, Lim X.K H → EnR X.K X.mg σ H en → PostG X.K X.mg W σ H en (relR X σ H en) (fa en) Q → ta σ H Q) (kb : ∀ σ H en Q, Lim X.K H → EnR X.K X.mg σ H en → PostG X.K X.mg W σ H en (relR X σ H en) (fb en) Q → tb σ H Q)
    (kr : ∀ H x y d e Q, Lim X.K H → Rd' X H x d → Rd' X H y e → PostO X H (g d e) Q → r x y H Q) (l : Lim X.K H) (E : EnR X.K X.mg σ H en) (post : PostG X.K X.mg W σ H en (relR X σ H en) (bin2 g fa fb en) Q) :
    tOp r ta tb σ H fun v H' => Lim X.K H' → Q v H' := by
  refine ka σ H en _ l E (PostG.bindAt (Stp.refl E) post fun r1 en1 v1 H1 _ l1 s1 rr1 post1 => ?_)
  refine kb σ H1 en1 _ l1 s1.er (PostG.bindAt s1 post1 fun r2 en2 v2 H2 _ l2 s2 rr2 post2 => ?_)
  unfold peek2 at post2
  split at post2
  · next d e h1 h2 => exact kr H2 v1 v2 d e _ l2 (Rb.peek s2.er (RR.later s1.er rr1 s2) h1) (Rb.peek s2.er rr2 h2) (PostG.ofO (s1.trans s2) post2)
  · exact post2.elim
theorem de_bin {op : Operator} {g : D → D → Option R} (ho : OpD X (binaryOp op) g) (ha : DE X W a fa) (hb : DE X W b fb) : DE X W (.BinOp a op b pos) (bin2 g fa fb) := by
  obtain ⟨ta, pa, ka⟩ := ha.ex
  obtain ⟨tb, pb, kb⟩ := hb.ex
  obtain ⟨r, o, kr⟩ := ho.ex
  exact DE.mk' (pe_op o pa pb) fun σ H en Q l E post => two_posts ka kb kr l E post
theorem de_cmp {op : CmpOp} {g : D → D → Option R} (ho : OpD X (compareOp op) g) (ha : DE X W a fa) (hb : DE X W b fb) (hm : behindInMarks op b = false := by first | exact nobehind _ (by decide) (by decide) | rfl) : DE X W (.Compare a [op] [b] pos) (bin2 g fa fb) := by
  obtain ⟨ta, pa, ka⟩ := ha.ex
  obtain ⟨tb, pb, kb⟩ := hb.ex
  obtain ⟨r, o, kr⟩ := ho.ex
  exact DE.mk' (pe_cmpR o pa pb hm) fun σ H en Q l E post => two_posts ka kb kr l E post
theorem de_ix {g : D → D → Option R} (ho : IxD X g) (ha : DE X W a fa) (hb : DE X W b fb) (hs : PlainIx b := by exact fun _ _ => rfl) : DE X W (.Subscript a b pos) (bin2 g fa fb) := by
  obtain ⟨ta, pa, ka⟩ := ha.ex
  obtain ⟨tb, pb, kb⟩ := hb.ex
  obtain ⟨r, o, kr⟩ := ho.ex
  exact DE.mk' (pe_ix o pa pb hs) fun σ H en Q l E post => two_posts ka kb kr l E post
def negG : D → Option R
  | .int i => some (.v (.int (-i)))
  | _ => none
theorem de_neg (ha : DE X W a fa) : DE X W (.UnaryOp .USub a pos) (un1 negG fa) := by
  obtain ⟨ta, pa, ka⟩ := ha.ex
  refine DE.mk' (pe_un un_neg pa) fun σ H en Q l E post => ?_
  refine ka σ H en _ l E (PostG.bindAt (Stp.refl E) post fun r1 en1 v1 H1 _ l1 s1 rr1 post1 => ?_)
  split at post1
  · next d h =>
    have p := PostG.ofO s1 post1
    have q := Rb.peek s1.er rr1 h
    cases d with
    | int i => exact ⟨i, Rb.int q, p _ H1 (Same.refl H1) (.int _)⟩
    | _ => exact p.elim
  · exact post1.elim
/-- tests -/
theorem DE.toT (h : DE X W e fa) (he : ∀ whole, isTrue e X.env whole = (do let v ← whole; standAt e.pos; holding [v] (truthy v)) := by intro _; rfl) : DT X W e (toB fa) := by
  obtain ⟨ta, pa, ka⟩ := h.ex
  refine DT.mk' (pt_val pa he) fun σ H en Q l E post => ?_
  refine ka σ H en _ l E (PostG.bindAt (Stp.refl E) post fun r1 en1 v1 H1 _ l1 s1 rr1 post1 => ?_)
  cases r1 with
  | v d =>
    cases d with
    | bl k =>
      have rr1 : Dr X.K X.mg H1 v1 (.bl k) := rr1
      cases rr1
      exact ⟨k, rfl, fun l' => post1 k H1 l' s1 rfl⟩
    | _ => exact post1.elim
  | _ => exact post1.elim
theorem bnd_assoc {α β γ : Type} (m : M α) (f : α → M β) (g : β → M γ) : M.bnd (M.bnd m f) g = M.bnd m fun x => M.bnd (f x) g := by
  funext en
  unfold M.bnd
  cases m en <;> rfl
theorem PostO.test {σ : L2.St} {H H2 : Hp} {en en2 : En} {o : Option R} {Q : Bool → Hp → Prop} (st : Stp X.K X.mg σ H en σ H2 en2) (p : PostG X.K X.mg W σ H en (fun _ _ b c => b = c) (toB (liftO o) en2) Q) :
    PostO X H2 o fun v H' => ∃ k, v = .bl k ∧ (Lim X.K H' → Q k H') := by
  cases o with
  | none => exact p
  | some r =>
    cases r with
    | v d =>
      cases d with
      | bl k =>
        intro v H' sm dr
        cases dr
        exact ⟨k, rfl, fun l' => p k H' l' (st.trans (Stp.same st.er sm)) rfl⟩
      | _ => exact p.elim
    | _ => exact p.elim
theorem dt_cmp {op : CmpOp} {g : D → D → Option R} (ho : OpD X (compareOp op) g) (ha : DE X W a fa) (hb : DE X W b fb) (hm : behindInMarks op b = false := by first | exact nobehind _ (by decide) (by decide) | rfl) : DT X W (.Compare a [op] [b] pos) (toB (bin2 g fa fb)) := by
  obtain ⟨ta, pa, ka⟩ := ha.ex
  obtain ⟨tb, pb, kb⟩ := hb.ex
  obtain ⟨r, o, kr⟩ := ho.ex
  refine DT.mk' (pt_cmpR o pa pb hm) fun σ H en Q l E post => ?_
  have post : PostG X.K X.mg W σ H en (fun _ _ b c => b = c) ((M.bnd fa fun r => M.bnd fb fun s => toB (peek2 g r s)) en) Q := by
    have e : toB (bin2 g fa fb) = M.bnd fa fun r => M.bnd fb fun s => toB (peek2 g r s) := by
      unfold toB bin2
      rw [bnd_assoc]
      congr 1
      funext r
      rw [bnd_assoc]
    rw [← e]; exact post
  refine ka σ H en _ l E (PostG.bindAt (Stp.refl E) post fun r1 en1 v1 H1 _ l1 s1 rr1 post1 => ?_)
  refine kb σ H1 en1 _ l1 s1.er (PostG.bindAt s1 post1 fun r2 en2 v2 H2 _ l2 s2 rr2 post2 => ?_)
  cases h1 : peek en2 r1 with
  | none => unfold toB M.bnd peek2 at post2; rw [h1] at post2; exact post2.elim
  | some d =>
    cases h2 : peek en2 r2 with
    | none => unfold toB M.bnd peek2 at post2; rw [h1, h2] at post2; exact post2.elim
    | some e =>
      refine kr H2 v1 v2 d e _ l2 (Rb.peek s2.er (RR.later s1.er rr1 s2) h1) (Rb.peek s2.er rr2 h2) (PostO.test (W := W) (s1.trans s2) ?_)
      have q : peek2 g r1 r2 en2 = liftO (g d e) en2 := by unfold peek2; rw [h1, h2]
      have q2 : toB (peek2 g r1 r2) en2 = toB (liftO (g d e)) en2 := by unfold toB M.bnd; rw [q]
      rw [← q2]
      exact post2
theorem dt_not (h : DT X W e f) : DT X W (.UnaryOp .Not e pos) (notM f) := by
  obtain ⟨ta, pa, ka⟩ := h.ex
  refine DT.mk' (pt_not pa) fun σ H en Q l E post => ?_
  exact ka σ H en _ l E (PostG.bindAt (Stp.refl E) post fun r1 en1 v1 H1 _ l1 s1 rr1 post1 => fun l' => post1 _ H1 l' s1 (by subst rr1; rfl))
theorem dw_and1 (h : DT X W e f) : DW X W (.BoolOp .And [e] pos) f := by
  obtain ⟨ta, pa, ka⟩ := h.ex
  exact ⟨ta, pw_and1 pa, ka⟩
theorem dw_or1 (h : DT X W e f) : DW X W (.BoolOp .Or [e] pos) f := by
  obtain ⟨ta, pa, ka⟩ := h.ex
  exact ⟨ta, pw_or1 pa, ka⟩
theorem DW.pt (h : DW X W e f) : DT X W e f := by
  obtain ⟨ta, pa, ka⟩ := h.ex
  exact ⟨ta, pa.pt, ka⟩
theorem DW.mk' {t : TT} (h : PW X e t) (k : ∀ σ H en Q, Lim X.K H → EnR X.K X.mg σ H en → PostG X.K X.mg W σ H en (fun _ _ b c => b = c) (f en) Q → t σ H fun v H' => Lim X.K H' → Q v H') : DW X W e f :=
  ⟨tLimT X.K t, pw_lim h, fun σ H en Q _ E p l => k σ H en Q l E p⟩
theorem dw_and {rest : List Expr} (h : DT X W a f) (h2 : DW X W (.BoolOp .And (b :: rest) pos) f2) : DW X W (.BoolOp .And (a :: b :: rest) pos) (andM f f2) := by
  obtain ⟨ta, pa, ka⟩ := h.ex
  obtain ⟨tb, pb, kb⟩ := h2.ex
  refine DW.mk' (pw_and pa pb) fun σ H en Q l E post => ?_
  refine ka σ H en _ l E (PostG.bindAt (Stp.refl E) post fun k en1 v1 H1 _ l1 s1 rr1 post1 => ?_)
  subst rr1
  cases v1 with
  | true => exact kb σ H1 en1 _ l1 s1.er (PostG.mono (PostG.shift s1 post1 fun _ _ _ _ _ h => h) (fun _ _ _ _ _ _ h => h) fun _ _ h _ => h)
  | false => exact fun l' => post1 false H1 l' s1 rfl
theorem dw_or {rest : List Expr} (h : DT X W a f) (h2 : DW X W (.BoolOp .Or (b :: rest) pos) f2) : DW X W (.BoolOp .Or (a :: b :: rest) pos) (orM f f2) := by
  obtain ⟨ta, pa, ka⟩ := h.ex
  obtain ⟨tb, pb, kb⟩ := h2.ex
  refine DW.mk' (pw_or pa pb) fun σ H en Q l E post => ?_
  refine ka σ H en _ l E (PostG.bindAt (Stp.refl E) post fun k en1 v1 H1 _ l1 s1 rr1 post1 => ?_)
  subst rr1
  cases v1 with
  | false => exact kb σ H1 en1 _ l1 s1.er (PostG.mono (PostG.shift s1 post1 fun _ _ _ _ _ h => h) (fun _ _ _ _ _ _ h => h) fun _ _ h _ => h)
  | true => exact fun l' => post1 true H1 l' s1 rfl
/-- and, or, not as values -/
theorem de_one {op} (h : DE X W a fa) : DE X W (.BoolOp op [a] pos) fa := by
  obtain ⟨ta, pa, ka⟩ := h.ex
  exact ⟨ta, pe_one pa, ka⟩
theorem toB_post {σ : L2.St} {H : Hp} {en : En} {α β : Type} {rel : Hp → En → β → α → Prop} {f : Bool → M α} {Q : β → Hp → Prop} {Q1 : VK} {m : M R} (post : PostG X.K X.mg W σ H en rel ((M.bnd (toB m) f) en) Q) (E : EnR X.K X.mg σ H en)
    (k : ∀ b en1 H1, Lim X.K H1 → Stp X.K X.mg σ H en σ H1 en1 → PostG X.K X.mg W σ H en rel (f b en1) Q → Q1 (.bl b) H1) : PostG X.K X.mg W σ H en (relR X σ H en) (m en) Q1 := by
  unfold toB at post
  rw [bnd_assoc] at post
  refine PostG.bindAt (Stp.refl E) post fun r1 en1 v1 H1 _ l1 s1 rr1 post1 => ?_
  cases r1 with
  | v d =>
    cases d with
    | bl c =>
      have rr1 : Dr X.K X.mg H1 v1 (.bl c) := rr1
      cases rr1
      exact k c en1 H1 l1 s1 post1
    | _ => exact post1.elim
  | _ => exact post1.elim
theorem shiftR {σ : L2.St} {H H1 : Hp} {en en1 : En} {o : Out R} {Q : VK} (s1 : Stp X.K X.mg σ H en σ H1 en1) (post1 : PostG X.K X.mg W σ H en (relR X σ H en) o Q) : PostG X.K X.mg W σ H1 en1 (relR X σ H1 en1) o fun v H' => Lim X.K H' → Q v H' :=
  PostG.mono (PostG.shift s1 post1 fun _ _ _ _ _ h => RR.back s1 h) (fun _ _ _ _ _ _ h => h) fun _ _ h _ => h
theorem de_and {rest : List Expr} (ha : DE X W a fa) (hb : DE X W (.BoolOp .And (b :: rest) pos) fb) : DE X W (.BoolOp .And (a :: b :: rest) pos) (andV fa fb) := by
  obtain ⟨ta, pa, ka⟩ := ha.ex
  obtain ⟨tb, pb, kb⟩ := hb.ex
  refine DE.mk' (pe_and pa pb) fun σ H en Q l E post => ?_
  refine ka σ H en _ l E (toB_post post E fun c en1 H1 l1 s1 post1 => ⟨c, rfl, ?_⟩)
  cases c with
  | true => exact kb σ H1 en1 _ l1 s1.er (shiftR s1 post1)
  | false => exact fun l' => post1 _ H1 l' s1 (.bl _)
theorem de_or {rest : List Expr} (ha : DE X W a fa) (hb : DE X W (.BoolOp .Or (b :: rest) pos) fb) : DE X W (.BoolOp .Or (a :: b :: rest) pos) (orV fa fb) := by
  obtain ⟨ta, pa, ka⟩ := ha.ex
  obtain ⟨tb, pb, kb⟩ := hb.ex
  refine DE.mk' (pe_or pa pb) fun σ H en Q l E post => ?_
  refine ka σ H en _ l E (toB_post post E fun c en1 H1 l1 s1 post1 => ⟨c, rfl, ?_⟩)
  cases c with
  | false => exact kb σ H1 en1 _ l1 s1.er (shiftR s1 post1)
  | true => exact fun l' => post1 _ H1 l' s1 (.bl _)
theorem de_not (ha : DE X W a fa) : DE X W (.UnaryOp .Not a pos) (notV fa) := by
  obtain ⟨ta, pa, ka⟩ := ha.ex
  refine DE.mk' (pe_not pa) fun σ H en Q l E post => ?_
  exact ka σ H en _ l E (toB_post post E fun c en1 H1 l1 s1 post1 => ⟨c, rfl, fun l' => post1 _ H1 l' s1 (.bl _)⟩)
theorem de_ife (hc : DT X W c f) (ha : DE X W a fa) (hb : DE X W b fb) : DE X W (.IfExp c a b pos) (ifM f fa fb) := by
  obtain ⟨tc, pc, kc⟩ := hc.ex
  obtain ⟨ta, pa, ka⟩ := ha.ex
  obtain ⟨tb, pb, kb⟩ := hb.ex
  refine DE.mk' (pe_ifExp pc pa pb) fun σ H en Q l E post => ?_
  refine kc σ H en _ l E (PostG.bindAt (Stp.refl E) post fun k en1 v1 H1 _ l1 s1 rr1 post1 => ?_)
  subst rr1
  cases v1 with
  | true => exact ka σ H1 en1 _ l1 s1.er (shiftR s1 post1)
  | false => exact kb σ H1 en1 _ l1 s1.er (shiftR s1 post1)
/-- argument lists -/
theorem da_nil : DA X W [] nilA := ⟨tNil, pa_nil, fun σ H en Q l E post => post [] H l (Stp.refl E) .nil⟩
theorem RL.later {σ : L2.St} {H0 H H1 : Hp} {en0 en en1 : En} (E : EnR X.K X.mg σ H en) (s : Stp X.K X.mg σ H en σ H1 en1) : ∀ {vs rs}, RL X σ H0 en0 H en vs rs → RL X σ H0 en0 H1 en1 vs rs
  | _, _, .nil => .nil
  | _, _, .cons r t => .cons (RR.later E r s) (RL.later E s t)
theorem RL.back {σ : L2.St} {H0 H H1 : Hp} {en0 en en1 : En} (s : Stp X.K X.mg σ H0 en0 σ H en) : ∀ {vs rs}, RL X σ H en H1 en1 vs rs → RL X σ H0 en0 H1 en1 vs rs
  | _, _, .nil => .nil
  | _, _, .cons r t => .cons (RR.back s r) (RL.back s t)
theorem da_cons (ha : DE X W a fa) (hb : DA X W es fs) (hs : starEach (a :: es) X.env = (false, eval a X.env) :: starEach es X.env := by rfl) : DA X W (a :: es) (consA fa fs) := by
  obtain ⟨ta, pa, ka⟩ := ha.ex
  obtain ⟨tb, pb, kb⟩ := hb.ex
  refine ⟨tLimA X.K (tCons ta tb), pa_lim (pa_cons pa pb hs), fun σ H en Q _ E post l => ?_⟩
  refine ka σ H en _ l E (PostG.bindAt (Stp.refl E) post fun r1 en1 v1 H1 _ l1 s1 rr1 post1 => ?_)
  refine kb σ H1 en1 _ l1 s1.er (PostG.bindAt s1 post1 fun rs en2 vs H2 _ l2 s2 rr2 post2 => fun l' => ?_)
  exact post2 _ H2 l' (s1.trans s2) (.cons (RR.later s1.er rr1 s2) (RL.back s1 rr2))
theorem dav_nil : DAV X W [] nilV := ⟨tNil, pa_nil, fun σ H en Q l E post => post [] H l (Stp.refl E) .nil⟩
theorem dav_cons {fd : M D} (ha : DV X W a fd) (hb : DAV X W es gs) (hs : starEach (a :: es) X.env = (false, eval a X.env) :: starEach es X.env := by rfl) : DAV X W (a :: es) (consV fd gs) := by
  obtain ⟨ta, pa, ka⟩ := ha.ex
  obtain ⟨tb, pb, kb⟩ := hb.ex
  refine ⟨tLimA X.K (tCons ta tb), pa_lim (pa_cons pa pb hs), fun σ H en Q _ E post l => ?_⟩
  refine ka σ H en _ l E (PostG.bindAt (Stp.refl E) post fun r1 en1 v1 H1 _ l1 s1 rr1 post1 => ?_)
  refine kb σ H1 en1 _ l1 s1.er (PostG.bindAt s1 post1 fun rs en2 vs H2 _ l2 s2 rr2 post2 => fun l' => ?_)
  exact post2 _ H2 l' (s1.trans s2) (.cons (Dr.mo (s2.mo s1.er) rr1) rr2)
theorem de_tup {x1} (h : DAV X W es gs) : DE X W (.Tuple es x1 pos) (tupM gs) := by
  obtain ⟨ta, pa, ka⟩ := h.ex
  refine DE.mk' (pe_tup pa) fun σ H en Q l E post => ?_
  refine ka σ H en _ l E (PostG.bindAt (Stp.refl E) post fun ds en1 vs H1 _ l1 s1 rr1 post1 => ?_)
  split at post1
  · next c => exact ⟨by rw [DrL.length rr1]; exact c, fun p hp l' => post1 _ _ l' (s1.trans (Stp.same s1.er (same_new hp))) (.tup (.inl (.inl upd_same)) (DrL.mo (Mo.same (same_new hp)) rr1))⟩
  · exact post1.elim
theorem new_fr {σ : L2.St} {H H1 : Hp} {en en1 : En} (s1 : Stp X.K X.mg σ H en σ H1 en1) {p : Addr} {o : HO} {d : D} (hp : H1 p = none) (m : MuC X.K X.mg (upd H1 p o) p d) : RR X.K X.mg σ H en σ (upd H1 p o) en1 (.ref p) (.fr d) := by
  refine ⟨p, rfl, m, fun z => ?_, ?_⟩
  · obtain ⟨u, hu, _⟩ := s1.er.there z
    rw [hp] at hu; cases hu
  · by_cases z : MA σ en p
    · exact .inl z
    · cases q : H p with
      | none => exact .inr rfl
      | some u => rw [s1.fr p u q z] at hp; cases hp
theorem de_lst (h : DAV X W es gs) : DE X W (.List es pos) (lstM gs) := by
  obtain ⟨ta, pa, ka⟩ := h.ex
  refine DE.mk' (pe_lst pa) fun σ H en Q l E post => ?_
  refine ka σ H en _ l E (PostG.bindAt (Stp.refl E) post fun ds en1 vs H1 _ l1 s1 rr1 post1 => ?_)
  split at post1
  · next c => exact ⟨by rw [DrL.length rr1]; exact c, fun p hp l' => post1 _ _ l' (s1.trans (Stp.same s1.er (same_new hp))) (new_fr s1 hp (fr_new hp rr1))⟩
  · exact post1.elim
/-- calls of what is built in -/
theorem RbL.peek {σ : L2.St} {H0 H : Hp} {en0 en : En} (E : EnR X.K X.mg σ H en) : ∀ {vs rs ds}, RL X σ H0 en0 H en vs rs → peekL en rs = some ds → RbL X H vs ds
  | _, _, _, .nil, h => by cases h; exact .nil
  | _, _, _, .cons r t, h => by
    unfold peekL at h
    split at h
    · next d ds h1 h2 => cases h; exact .cons (Rb.peek E r h1) (RbL.peek E t h2)
    · cases h
theorem call_post {σ : L2.St} {H : Hp} {en : En} {Q : VK} {f : Value} {g : List D → Option R} {ta : TA} {r : List V → Hp → VK → Prop} {fs : M (List R)}
    (ka : ∀ σ H en Q, Lim X.K H → EnR X.K X.mg σ H en → PostG X.K X.mg W σ H en (fun H' en' vs rs => RL X σ H en H' en' vs rs) (fs en) Q → ta σ H Q)
    (kr : ∀ H xs ds Q, Lim X.K H → RbL X H xs ds → PostO X H (g ds) Q → r xs H Q) (l : Lim X.K H) (E : EnR X.K X.mg σ H en) (post : PostG X.K X.mg W σ H en (relR X σ H en) (callM g fs en) Q) :
    tCB r ta σ H fun v H' => Lim X.K H' → Q v H' := by
  refine ka σ H en _ l E (PostG.bindAt (Stp.refl E) post fun rs en1 vs H1 _ l1 s1 rr1 post1 => ?_)
  split at post1
  · next ds h => exact kr H1 vs ds _ l1 (RbL.peek s1.er rr1 h) (PostG.ofO s1 post1)
  · exact post1.elim
theorem de_callB {x : Str} {id : String} {p : Pos} {g : List D → Option R} {fs : M (List R)} (hc : CallD X (.builtin id) g) (hg : Gl X x) (hm : X.mg x = none) (hv : bootBuiltins x = some (.builtin id)) (ha : DA X W (e :: es) fs) (hn : x ≠ "__name__" := by decide)
    (hdb : (x == ("__debug__" : Str)) = false := by decide) (he : starEach (e :: es) X.env = (false, eval e X.env) :: starEach es X.env := by rfl) (hpl : (backTo pos (starEach es X.env)).any (·.1) = false := by rfl) : DE X W (.Call (.Name x p) (e :: es) [] pos) (callM g fs) := by
  obtain ⟨ta, pa, ka⟩ := ha.ex
  obtain ⟨r, o, kr⟩ := hc.ex
  exact DE.mk' (pe_callB o hg hm hv pa hn hdb he hpl) fun σ H en Q l E post => call_post (f := .builtin id) ka kr l E post
theorem de_callTy {x : Str} {T : String} {p : Pos} {g : List D → Option R} {fs : M (List R)} (hc : CallD X (.type T) g) (hg : Gl X x) (hm : X.mg x = none) (hv : bootBuiltins x = some (.type T)) (ha : DA X W (e :: es) fs) (hn : x ≠ "__name__" := by decide)
    (hdb : (x == ("__debug__" : Str)) = false := by decide) (he : starEach (e :: es) X.env = (false, eval e X.env) :: starEach es X.env := by rfl) (hpl : (backTo pos (starEach es X.env)).any (·.1) = false := by rfl) : DE X W (.Call (.Name x p) (e :: es) [] pos) (callM g fs) := by
  obtain ⟨ta, pa, ka⟩ := ha.ex
  obtain ⟨r, o, kr⟩ := hc.ex
  exact DE.mk' (pe_callTy o hg hm hv pa hn hdb he hpl) fun σ H en Q l E post => call_post (f := .type T) ka kr l E post
end
end Fw
set_option Elab.async false
set_option linter.all false
set_option maxRecDepth 100000
set_option maxHeartbeats 4000000
namespace Fw
open PySem PySem.Spec PyProof.Rows L2

inductive Fl where
  | nx | rt (r : R) | bk | ct
abbrev S := M Fl
section
variable {K : PySem.W.Frag} {mg : Str → Option Value} {σ σ1 σ2 : L2.St} {H H1 H2 : Hp} {en en1 en2 : En}
theorem RR.back' (st : Stp K mg σ H en σ1 H1 en1) {v : V} {r : R} (h : RR K mg σ1 H1 en1 σ2 H2 en2 v r) : RR K mg σ H en σ2 H2 en2 v r := by
  cases r with
  | v d => exact h
  | al i => exact h
  | fr d =>
    obtain ⟨a, e, m, n, w⟩ := h
    refine ⟨a, e, m, n, ?_⟩
    rcases w with w | w
    · exact st.ma a w
    · by_cases z : MA σ en a
      · exact .inl z
      · cases q : H a with
        | none => exact .inr rfl
        | some o => rw [st.fr a o q z] at w; cases w
end
section
variable (X : Cx) (W : WX)
def PostS (σ : L2.St) (H : Hp) (en : En) (o : Out Fl) (D : Ends) : Prop := match o with
  | .ok .nx en' => ∀ σ' H', Lim X.K H' → Stp X.K X.mg σ H en σ' H' en' → D.nx σ' H'
  | .ok .bk en' => ∀ σ' H', Lim X.K H' → Stp X.K X.mg σ H en σ' H' en' → D.bk σ' H'
  | .ok .ct en' => ∀ σ' H', Lim X.K H' → Stp X.K X.mg σ H en σ' H' en' → D.ct σ' H'
  | .ok (.rt r) en' => ∀ v σ' H', Lim X.K H' → Stp X.K X.mg σ H en σ' H' en' → RR X.K X.mg σ H en σ' H' en' v r → D.rt v H'
  | .err x en' => ∀ cls d σ' H', Stp X.K X.mg σ H en σ' H' en' → ExR X.mg cls d x → W cls d σ' H'
  | .bad => False
structure DS (st : Stmt) (f : S) : Prop where
  ex : ∃ t : TS, PS X st t ∧ ∀ σ H en D, Lim X.K H → EnR X.K X.mg σ H en → PostS X W σ H en (f en) D → t D σ H
structure DSs (st : List Stmt) (f : S) : Prop where
  ex : ∃ t : TS, PSs X st t ∧ ∀ σ H en D, Lim X.K H → EnR X.K X.mg σ H en → PostS X W σ H en (f en) D → t D σ H
end
def seqS (a b : S) : S := M.bnd a fun fl => match fl with
  | .nx => b
  | f => fun en => .ok f en
def nopS : S := fun en => .ok .nx en
def badS : S := fun _ => .bad
def bkS : S := fun en => .ok .bk en
def ctS : S := fun en => .ok .ct en
def ifS (c : M Bool) (a b : S) : S := ifM c a b
def dropS (m : M R) : S := M.bnd m fun _ => nopS
def retR (r : R) : S := fun en => match r with
  | .v d => .ok (.rt (.v d)) en
  | .fr d => .ok (.rt (.fr d)) en
  | .al i => match en[i]? with
    | some (.v d) => .ok (.rt (.v d)) en
    | some (.mu .own d) => .ok (.rt (.fr d)) (en.set i .no)
    | _ => .bad
def retS (m : M R) : S := M.bnd m retR
def retN : S := fun en => .ok (.rt (.v .non)) en
/-- a slot may be stored to -/
def free? (en : En) (i : Nat) : Bool := match en[i]? with
  | some (.mu .ref _) => false
  | some (.mu .lck _) => false
  | some _ => true
  | none => false
def setR (i : Nat) (r : R) : M Unit := fun en => if free? en i then (match r with
  | .v d => .ok () (en.set i (.v d))
  | .fr d => .ok () (en.set i (.mu .own d))
  | .al j => match en[j]? with
    | some (.v d) => .ok () (en.set i (.v d))
    | some (.mu .own d) => if i = j then .ok () en else .ok () ((en.set j .no).set i (.mu .own d))
    | _ => .bad) else .bad
def setS (i : Nat) (m : M R) : S := M.bnd m fun r => M.bnd (setR i r) fun _ => nopS
def setD (i : Nat) (d : D) : En → Option En := fun en => if free? en i then some (en.set i (.v d)) else none

section
variable {X : Cx} {W : WX} {st : Stmt} {sts : List Stmt} {f g : S} {e : Expr} {fe : M R} {pos : Pos}
def limE (K : PySem.W.Frag) (D : Ends) : Ends := ⟨fun σ' H' => Lim K H' → D.nx σ' H', fun v H' => Lim K H' → D.rt v H', fun σ' H' => Lim K H' → D.bk σ' H', fun σ' H' => Lim K H' → D.ct σ' H'⟩
theorem sp_lim {pins : List (Addr × Obj)} {D : Ends} {fl : Flow} {s' : Shared} (h : SP X pins (limE X.K D) fl s') : SP X pins D fl s' := by
  cases fl with
  | next => obtain ⟨σ', H', I, q⟩ := h; exact ⟨σ', H', I, q (inv_lim I)⟩
  | brk => obtain ⟨σ', H', I, q⟩ := h; exact ⟨σ', H', I, q (inv_lim I)⟩
  | cont => obtain ⟨σ', H', I, q⟩ := h; exact ⟨σ', H', I, q (inv_lim I)⟩
  | ret u => obtain ⟨v, σ', H', I, r, q⟩ := h; exact ⟨v, σ', H', I, r, q (inv_lim I)⟩
def tLimS (K : PySem.W.Frag) (t : TS) : TS := fun D σ H => Lim K H → t (limE K D) σ H
theorem ps_lim {t : TS} (h : PS X st t) : PS X st (tLimS X.K t) := ⟨fun pins s σ H D I hw => thn (h.run pins s σ H _ I (hw (inv_lim I))) fun _ _ q => sp_lim q⟩
theorem pss_lim {t : TS} (h : PSs X sts t) : PSs X sts (tLimS X.K t) := ⟨fun pins s σ H D I hw => thn (h.run pins s σ H _ I (hw (inv_lim I))) fun _ _ q => sp_lim q⟩
theorem DS.mk' {t : TS} (h : PS X st t) (k : ∀ σ H en D, Lim X.K H → EnR X.K X.mg σ H en → PostS X W σ H en (f en) D → t (limE X.K D) σ H) : DS X W st f :=
  ⟨tLimS X.K t, ps_lim h, fun σ H en D _ E p l => k σ H en D l E p⟩
theorem PostS.shift {σ σ1 : L2.St} {H H1 : Hp} {en en1 : En} {o : Out Fl} {D : Ends} (s : Stp X.K X.mg σ H en σ1 H1 en1) (h : PostS X W σ H en o D) : PostS X W σ1 H1 en1 o D := by
  cases o with
  | ok fl en' =>
    cases fl with
    | nx => exact fun σ' H' l z => h σ' H' l (s.trans z)
    | bk => exact fun σ' H' l z => h σ' H' l (s.trans z)
    | ct => exact fun σ' H' l z => h σ' H' l (s.trans z)
    | rt r => exact fun v σ' H' l z q => h v σ' H' l (s.trans z) (RR.back' s q)
  | err x en' => exact fun cls d σ' H' z x => h cls d σ' H' (s.trans z) x
  | bad => exact h
/-- other ends that are wished for where these are -/
theorem PostS.ends {σ : L2.St} {H : Hp} {en : En} {o : Out Fl} {D D' : Ends} (h : PostS X W σ H en o D) (h1 : ∀ σ' H', D.nx σ' H' → D'.nx σ' H') (h2 : ∀ v H', D.rt v H' → D'.rt v H') (h3 : ∀ σ' H', D.bk σ' H' → D'.bk σ' H') (h4 : ∀ σ' H', D.ct σ' H' → D'.ct σ' H') : PostS X W σ H en o D' := by
  cases o with
  | ok fl en' =>
    cases fl with
    | nx => exact fun σ' H' l z => h1 _ _ (h σ' H' l z)
    | bk => exact fun σ' H' l z => h3 _ _ (h σ' H' l z)
    | ct => exact fun σ' H' l z => h4 _ _ (h σ' H' l z)
    | rt r => exact fun v σ' H' l z q => h2 _ _ (h v σ' H' l z q)
  | err x en' => exact h
  | bad => exact h
theorem PostS.lim {σ : L2.St} {H : Hp} {en : En} {o : Out Fl} {D : Ends} (h : PostS X W σ H en o D) : PostS X W σ H en o (limE X.K D) := h.ends (fun _ _ z _ => z) (fun _ _ z _ => z) (fun _ _ z _ => z) (fun _ _ z _ => z)
/-- an expression ahead -/
theorem PostS.expr {σ : L2.St} {H : Hp} {en : En} {α β : Type} {rel : Hp → En → β → α → Prop} {m : M α} {k : α → S} {D : Ends} {Q1 : β → Hp → Prop} (E : EnR X.K X.mg σ H en) (h : PostS X W σ H en ((M.bnd m k) en) D)
    (q : ∀ a en1 b H1, m en = .ok a en1 → Lim X.K H1 → Stp X.K X.mg σ H en σ H1 en1 → rel H1 en1 b a → PostS X W σ H en (k a en1) D → Q1 b H1) : PostG X.K X.mg W σ H en rel (m en) Q1 := by
  unfold M.bnd at h
  cases e : m en with
  | ok a en1 => rw [e] at h; exact fun b H1 l s r => q a en1 b H1 e l s r h
  | err x en1 => rw [e] at h; exact fun cls d H' s x => h cls d σ H' s x
  | bad => rw [e] at h; exact h
theorem PostS.seq {σ : L2.St} {H : Hp} {en : En} {D : Ends} {u : TS} (h : PostS X W σ H en (seqS f g en) D) (hu : ∀ σ1 H1 en1, Lim X.K H1 → Stp X.K X.mg σ H en σ1 H1 en1 → PostS X W σ1 H1 en1 (g en1) D → u D σ1 H1) : PostS X W σ H en (f en) { D with nx := u D } := by
  unfold seqS M.bnd at h
  cases e : f en with
  | ok fl en1 =>
    rw [e] at h
    cases fl with
    | nx => exact fun σ1 H1 l s => hu σ1 H1 en1 l s (PostS.shift s h)
    | bk => exact h
    | ct => exact h
    | rt r => exact h
  | err x en1 => rw [e] at h; exact h
  | bad => rw [e] at h; exact h
theorem dss_nil : DSs X W [] nopS := ⟨tNext, pss_nil, fun σ H en D l E p => p σ H l (Stp.refl E)⟩
theorem dss_one (h : DS X W st f) : DSs X W [st] f := by
  obtain ⟨t, p, k⟩ := h.ex
  exact ⟨t, pss_one p, k⟩
theorem dss_cons (h : DS X W st f) (h2 : DSs X W sts g) : DSs X W (st :: sts) (seqS f g) := by
  obtain ⟨t, p, k⟩ := h.ex
  obtain ⟨u, p2, k2⟩ := h2.ex
  refine ⟨tSeq t u, pss_cons p p2, fun σ H en D l E post => k σ H en _ l E (PostS.seq post fun σ1 H1 en1 l1 s1 q => k2 σ1 H1 en1 D l1 s1.er q)⟩
/-- what is never come to -/
theorem ds_bad : DS X W st badS := ⟨tNever, ps_never, fun σ H en D l E p => p⟩
theorem dss_bad : DSs X W sts badS := ⟨tNever, pss_never, fun σ H en D l E p => p⟩
theorem ds_pass : DS X W (.Pass pos) nopS := ⟨tNext, ps_pass, fun σ H en D l E p => p σ H l (Stp.refl E)⟩
theorem ds_break : DS X W (.Break pos) bkS := ⟨tBreak, ps_break, fun σ H en D l E p => p σ H l (Stp.refl E)⟩
theorem ds_continue : DS X W (.Continue pos) ctS := ⟨tCont, ps_continue, fun σ H en D l E p => p σ H l (Stp.refl E)⟩
theorem ds_expr (he : DE X W e fe) (hs : swapsWith e none pos.line X.env = pure false := by rfl) : DS X W (.Expr e pos) (dropS fe) := by
  obtain ⟨t, p, k⟩ := he.ex
  exact DS.mk' (ps_expr p hs) fun σ H en D l E post => k σ H en _ l E (PostS.expr E post fun r en1 v H1 _ l1 s1 rr q => fun l' => q σ H1 l' s1)
theorem ds_if {c : Expr} {a b : List Stmt} {fc : M Bool} (hc : DT X W c fc) (ha : DSs X W a f) (hb : DSs X W b g) : DS X W (.If c a b pos) (ifS fc f g) := by
  obtain ⟨tc, pc, kc⟩ := hc.ex
  obtain ⟨ta, pa, ka⟩ := ha.ex
  obtain ⟨tb, pb, kb⟩ := hb.ex
  refine DS.mk' (ps_if pc pa pb) fun σ H en D l E post => ?_
  refine kc σ H en _ l E (PostS.expr E post fun c en1 v H1 _ l1 s1 rr q => ?_)
  subst rr
  cases v with
  | true => exact ka σ H1 en1 _ l1 s1.er (PostS.shift s1 q).lim
  | false => exact kb σ H1 en1 _ l1 s1.er (PostS.shift s1 q).lim
theorem am_set_no {σ : L2.St} {en : En} {j : Nat} {a : Addr} (h : AM σ (en.set j .no) a) : ∃ i k d, en[i]? = some (.mu k d) ∧ σ[i]? = some (some (.ref a)) ∧ i ≠ j := by
  obtain ⟨i, k, d, e, q⟩ := h
  by_cases hj : j = i
  · subst hj
    by_cases hl : j < en.length
    · rw [List.getElem?_set_self hl] at e; cases e
    · rw [List.getElem?_eq_none (by simpa using hl)] at e; cases e
  · rw [List.getElem?_set_ne hj] at e
    exact ⟨i, k, d, e, q, fun z => hj z.symm⟩
/-- a slot is forgotten -/
theorem Stp.drop {σ σ1 : L2.St} {H H1 : Hp} {en en1 : En} {K : PySem.W.Frag} {mg : Str → Option Value} (s : Stp K mg σ H en σ1 H1 en1) {j : Nat} (hf : ∀ k d, en1[j]? = some (.mu k d) → k = .own) : Stp K mg σ H en σ1 H1 (en1.set j .no) := by
  have E := s.er
  have look : ∀ (i : Nat) (x : Sl), (en1.set j .no)[i]? = some x → x ≠ .no → i ≠ j ∧ en1[i]? = some x := fun i x h n => by
    by_cases hj : j = i
    · subst hj
      by_cases hl : j < en1.length
      · rw [List.getElem?_set_self hl] at h; cases h; exact absurd rfl n
      · rw [List.getElem?_eq_none (by simpa using hl)] at h; cases h
    · rw [List.getElem?_set_ne hj] at h; exact ⟨fun z => hj z.symm, h⟩
  refine ⟨s.fr, ⟨by rw [List.length_set]; exact E.len, fun i d h => E.val i d (look i _ h (by simp)).2, fun i k d h => E.mu i k d (look i _ h (by simp)).2, fun i l a k d k' d' h1 h2 => E.dist i l a k d k' d' (look i _ h1 (by simp)).2 (look l _ h2 (by simp)).2⟩,
    fun a z => ?_, fun a z => ?_, fun i k d e hk => ?_, by rw [List.length_set]; exact s.ln⟩
  · obtain ⟨i, k, d, e, hk, q⟩ := z
    exact s.ma a ⟨i, k, d, (look i _ e (by simp)).2, hk, q⟩
  · obtain ⟨i, k, d, e, q⟩ := z
    exact s.am a ⟨i, k, d, (look i _ e (by simp)).2, q⟩
  · obtain ⟨s1, d', e1, l1⟩ := s.kp i k d e hk
    have hj : j ≠ i := fun z => by subst z; exact hk (hf _ _ e1)
    exact ⟨s1, d', by rw [List.getElem?_set_ne hj]; exact e1, l1⟩
theorem ds_ret (he : DE X W e fe) : DS X W (.Return (some e) pos) (retS fe) := by
  obtain ⟨t, p, k⟩ := he.ex
  refine DS.mk' (ps_ret p) fun σ H en D l E post => k σ H en _ l E (PostS.expr E post fun r en1 v H1 _ l1 s1 rr q => fun l' => ?_)
  cases r with
  | v d => exact q v σ H1 l' s1 rr
  | fr d => exact q v σ H1 l' s1 rr
  | al i =>
    have rr : σ[i]? = some (some v) := rr
    unfold retR at q
    simp only at q
    split at q
    · next d h =>
      obtain ⟨v', h2, r⟩ := s1.er.val i d h
      rw [rr] at h2; cases h2
      exact q v σ H1 l' s1 r
    · next d h =>
      obtain ⟨a, h2, m⟩ := s1.er.mu i _ d h
      rw [rr] at h2; cases h2
      have s2 := s1.drop (j := i) fun k d' e => by rw [h] at e; cases e; rfl
      refine q _ σ H1 l' s2 ⟨a, rfl, m, fun z => ?_, s1.ma a ⟨i, _, d, h, by decide, rr⟩⟩
      obtain ⟨i', k', d', e', q', ne⟩ := am_set_no z
      exact ne (s1.er.dist i' i a k' d' _ d e' h q' rr)
    · exact q.elim
theorem ds_retN : DS X W (.Return none pos) retN := ⟨tRetN, ps_retN, fun σ H en D l E p => p .non σ H l (Stp.refl E) .non⟩
end

/-! ### stores -/
theorem bnd_ok {α β : Type} {m : M α} {f : α → M β} {en en' : En} {a : α} (h : m en = .ok a en') : M.bnd m f en = f a en' := by unfold M.bnd; rw [h]
theorem bnd_bad {α β : Type} {m : M α} {f : α → M β} {en : En} (h : m en = .bad) : M.bnd m f en = .bad := by unfold M.bnd; rw [h]
theorem bnd_err {α β : Type} {m : M α} {f : α → M β} {en en' : En} {x : Str} (h : m en = .err x en') : M.bnd m f en = .err x en' := by unfold M.bnd; rw [h]
section
variable {K : PySem.W.Frag} {mg : Str → Option Value} {σ σ1 : L2.St} {H H1 : Hp} {en en1 : En}
theorem free_own {en : En} {i : Nat} (h : free? en i = true) : i < en.length ∧ ∀ k d, en[i]? = some (.mu k d) → k = .own := by
  unfold free? at h
  split at h
  · cases h
  · cases h
  · next x n1 n2 e =>
    refine ⟨(List.getElem?_eq_some_iff.mp e).1, fun k d q => ?_⟩
    rw [e] at q; cases q
    cases k with
    | own => rfl
    | ref => exact (n1 d rfl).elim
    | lck => exact (n2 d rfl).elim
  · cases h
theorem Stp.setV (s : Stp K mg σ H en σ1 H1 en1) {i : Nat} {v : V} {d : D} (hf : free? en1 i = true) (r : Dr K mg H1 v d) : Stp K mg σ H en (σ1.set i (some v)) H1 (en1.set i (.v d)) := by
  obtain ⟨hi, ho⟩ := free_own hf
  have E := s.er
  have his : i < σ1.length := by rw [E.len]; exact hi
  have look : ∀ (j : Nat) (k : Mk) (x : D), (en1.set i (.v d))[j]? = some (.mu k x) → i ≠ j ∧ en1[j]? = some (.mu k x) := fun j k x h => by
    by_cases hj : i = j
    · subst hj; rw [List.getElem?_set_self hi] at h; cases h
    · rw [List.getElem?_set_ne hj] at h; exact ⟨hj, h⟩
  have sl : ∀ (j : Nat), i ≠ j → (σ1.set i (some v))[j]? = σ1[j]? := fun j hj => List.getElem?_set_ne hj
  refine ⟨s.fr, ⟨by rw [List.length_set, List.length_set]; exact E.len, fun j x h => ?_, fun j k x h => ?_, fun j l a k x k' x' h1 h2 q1 q2 => ?_⟩, fun a z => ?_, fun a z => ?_, fun j k x e hk => ?_, by rw [List.length_set]; exact s.ln⟩
  · by_cases hj : i = j
    · subst hj
      rw [List.getElem?_set_self hi] at h
      cases h
      exact ⟨v, List.getElem?_set_self his, r⟩
    · rw [List.getElem?_set_ne hj] at h
      rw [sl j hj]
      exact E.val j x h
  · obtain ⟨hj, h'⟩ := look j k x h
    rw [sl j hj]
    exact E.mu j k x h'
  · obtain ⟨hj, h1'⟩ := look j k x h1
    obtain ⟨hl, h2'⟩ := look l k' x' h2
    rw [sl j hj] at q1
    rw [sl l hl] at q2
    exact E.dist j l a k x k' x' h1' h2' q1 q2
  · obtain ⟨j, k, x, e, hk, q⟩ := z
    obtain ⟨hj, e'⟩ := look j k x e
    rw [sl j hj] at q
    exact s.ma a ⟨j, k, x, e', hk, q⟩
  · obtain ⟨j, k, x, e, q⟩ := z
    obtain ⟨hj, e'⟩ := look j k x e
    rw [sl j hj] at q
    exact s.am a ⟨j, k, x, e', q⟩
  · obtain ⟨s1, d', e1, l1⟩ := s.kp j k x e hk
    have hj : i ≠ j := fun z => by subst z; exact hk (ho _ _ e1)
    exact ⟨(sl j hj).trans s1, d', by rw [List.getElem?_set_ne hj]; exact e1, l1⟩
theorem Stp.setF (s : Stp K mg σ H en σ1 H1 en1) {i : Nat} {a : Addr} {d : D} (hf : free? en1 i = true) (m : MuC K mg H1 a d) (n : ∀ j k x, en1[j]? = some (.mu k x) → j ≠ i → σ1[j]? ≠ some (some (.ref a))) (w : MA σ en a ∨ H a = none) : Stp K mg σ H en (σ1.set i (some (.ref a))) H1 (en1.set i (.mu .own d)) := by
  obtain ⟨hi, ho⟩ := free_own hf
  have E := s.er
  have his : i < σ1.length := by rw [E.len]; exact hi
  have sl : ∀ (j : Nat), i ≠ j → (σ1.set i (some (V.ref a)))[j]? = σ1[j]? := fun j hj => List.getElem?_set_ne hj
  have el : ∀ (j : Nat), i ≠ j → (en1.set i (.mu .own d))[j]? = en1[j]? := fun j hj => List.getElem?_set_ne hj
  have si : (σ1.set i (some (V.ref a)))[i]? = some (some (.ref a)) := List.getElem?_set_self his
  have ei : (en1.set i (.mu .own d))[i]? = some (.mu .own d) := List.getElem?_set_self hi
  refine ⟨s.fr, ⟨by rw [List.length_set, List.length_set]; exact E.len, fun j x h => ?_, fun j k x h => ?_, fun j l b k x k' x' h1 h2 q1 q2 => ?_⟩, fun b z => ?_, fun b z => ?_, fun j k x e hk => ?_, by rw [List.length_set]; exact s.ln⟩
  · by_cases hj : i = j
    · subst hj; rw [ei] at h; cases h
    · rw [el j hj] at h; rw [sl j hj]; exact E.val j x h
  · by_cases hj : i = j
    · subst hj; rw [ei] at h; cases h; exact ⟨a, si, m⟩
    · rw [el j hj] at h; rw [sl j hj]; exact E.mu j k x h
  · by_cases hj : i = j
    · subst hj
      by_cases hl : i = l
      · exact hl
      · rw [el l hl] at h2
        rw [sl l hl] at q2
        rw [si] at q1
        cases q1
        exact absurd q2 (n l k' x' h2 fun z => hl z.symm)
    · by_cases hl : i = l
      · subst hl
        rw [el j hj] at h1
        rw [sl j hj] at q1
        rw [si] at q2
        cases q2
        exact absurd q1 (n j k x h1 fun z => hj z.symm)
      · rw [el j hj] at h1
        rw [el l hl] at h2
        rw [sl j hj] at q1
        rw [sl l hl] at q2
        exact E.dist j l b k x k' x' h1 h2 q1 q2
  · obtain ⟨j, k, x, e, hk, q⟩ := z
    by_cases hj : i = j
    · subst hj; rw [si] at q; cases q; exact w
    · rw [el j hj] at e; rw [sl j hj] at q; exact s.ma b ⟨j, k, x, e, hk, q⟩
  · obtain ⟨j, k, x, e, q⟩ := z
    by_cases hj : i = j
    · subst hj; rw [si] at q; cases q; exact w.imp (fun z => z.am) id
    · rw [el j hj] at e; rw [sl j hj] at q; exact s.am b ⟨j, k, x, e, q⟩
  · obtain ⟨s1, d', e1, l1⟩ := s.kp j k x e hk
    have hj : i ≠ j := fun z => by subst z; exact hk (ho _ _ e1)
    exact ⟨(sl j hj).trans s1, d', (el j hj).trans e1, l1⟩
/-- what setR leaves -/
theorem Stp.setR (s : Stp K mg σ H en σ1 H1 en1) {i : Nat} {v : V} {r : R} {en2 : En} (rr : RR K mg σ H en σ1 H1 en1 v r) (h : setR i r en1 = .ok () en2) : Stp K mg σ H en (σ1.set i (some v)) H1 en2 := by
  unfold Fw.setR at h
  split at h
  · next hf =>
    cases r with
    | v d => cases h; exact s.setV hf rr
    | fr d =>
      cases h
      obtain ⟨a, rfl, m, n, w⟩ := rr
      exact s.setF hf m (fun j k x e _ q => n ⟨j, k, x, e, q⟩) w
    | al j =>
      have rr : σ1[j]? = some (some v) := rr
      simp only at h
      split at h
      · next d e =>
        cases h
        obtain ⟨v', q, r⟩ := s.er.val j d e
        rw [rr] at q; cases q
        exact s.setV hf r
      · next d e =>
        obtain ⟨a, q, m⟩ := s.er.mu j _ d e
        rw [rr] at q; cases q
        by_cases hij : i = j
        · rw [if_pos hij] at h
          cases h
          subst hij
          have : σ1.set i (some (V.ref a)) = σ1 := by
            apply List.ext_getElem?
            intro l
            by_cases hl : i = l
            · subst hl
              rw [List.getElem?_set_self (List.getElem?_eq_some_iff.mp rr).1, rr]
            · rw [List.getElem?_set_ne hl]
          rw [this]
          exact s
        · rw [if_neg hij] at h
          cases h
          have s2 := s.drop (j := j) fun k d' e' => by rw [e] at e'; cases e'; rfl
          refine s2.setF ?_ m (fun l k x e' hl q' => ?_) (s.ma a ⟨j, _, d, e, by decide, rr⟩)
          · unfold free? at hf ⊢
            rw [List.getElem?_set_ne fun z => hij z.symm]
            exact hf
          · by_cases hlj : j = l
            · subst hlj
              by_cases hl2 : j < en1.length
              · rw [List.getElem?_set_self hl2] at e'; cases e'
              · rw [List.getElem?_eq_none (by simpa using hl2)] at e'; cases e'
            · rw [List.getElem?_set_ne hlj] at e'
              exact hlj (s.er.dist j l a _ d k x e e' rr q')
      · cases h
  · cases h
end
section
variable {X : Cx} {W : WX} {e : Expr} {fe : M R} {pos : Pos}
theorem setR_ok {i : Nat} {r : R} {en : En} : (∃ en2, setR i r en = .ok () en2) ∨ setR i r en = .bad := by
  unfold setR
  split
  · cases r with
    | v d => exact .inl ⟨_, rfl⟩
    | fr d => exact .inl ⟨_, rfl⟩
    | al j =>
      simp only
      split
      · exact .inl ⟨_, rfl⟩
      · split
        · exact .inl ⟨_, rfl⟩
        · exact .inl ⟨_, rfl⟩
      · exact .inr rfl
  · exact .inr rfl
theorem ds_set (i : Nat) {x : Str} {pos' : Pos} (he : DE X W e fe) (hN : X.N.Nodup) (hi : X.N[i]? = some x := by rfl) (hx : Loc X.env.scope x := by first | exact Or.inl rfl | exact Or.inr rfl) (hs : swapsWith e (some (.Name x pos')) pos.line X.env = pure false := by rfl)
    (hf : X.fn x = true ∨ X.env.scope.names.lookup x = some .local := by first | exact .inl rfl | exact .inr rfl) : DS X W (.Assign [.Name x pos'] e pos) (setS i fe) := by
  obtain ⟨t, p, k⟩ := he.ex
  refine DS.mk' (ps_set hN hi hx p hs hf) fun σ H en D l E post => k σ H en _ l E (PostS.expr E post fun r en1 v H1 _ l1 s1 rr q => fun l' => ?_)
  rcases setR_ok (i := i) (r := r) (en := en1) with ⟨en2, h⟩ | h
  · rw [bnd_ok h] at q
    exact q _ H1 l' (s1.setR rr h)
  · rw [bnd_bad h] at q
    exact q.elim
end
end Fw
set_option Elab.async false
set_option linter.all false
set_option maxRecDepth 100000
set_option maxHeartbeats 4000000
namespace Fw
open PySem PySem.Spec PyProof.Rows L2

/-! ### targets -/
abbrev TgF := D → En → Option En
def PostT (X : Cx) (σ : L2.St) (H : Hp) (en : En) (o : Option En) (Q : L2.St → Hp → Prop) : Prop := match o with
  | some en' => ∀ σ', Stp X.K X.mg σ H en σ' H en' → Q σ' H
  | none => False
structure DG (X : Cx) (tg : Expr) (g : TgF) : Prop where
  ex : ∃ t : TG, PG X tg t ∧ ∀ v d σ H en Q, Lim X.K H → EnR X.K X.mg σ H en → Dr X.K X.mg H v d → PostT X σ H en (g d en) Q → t v σ H Q
structure DGs (X : Cx) (tgs : List Expr) (g : List D → En → Option En) : Prop where
  ex : ∃ t : TGs, PGs X tgs t ∧ ∀ vs ds σ H en Q, Lim X.K H → EnR X.K X.mg σ H en → DrL X.K X.mg H vs ds → PostT X σ H en (g ds en) Q → t vs σ H Q
def nilG : List D → En → Option En := fun ds en => match ds with
  | [] => some en
  | _ => none
def consG (g : TgF) (gs : List D → En → Option En) : List D → En → Option En := fun ds en => match ds with
  | d :: r => (g d en).bind (gs r)
  | [] => none
def tupG (n : Nat) (gs : List D → En → Option En) : TgF := fun d en => match d with
  | .tup ds => if ds.length = n then gs ds en else none
  | _ => none
section
variable {X : Cx} {tg : Expr} {tgs : List Expr} {g : TgF} {gs : List D → En → Option En} {pos : Pos}
theorem dg_name (i : Nat) {x : Str} (hN : X.N.Nodup) (hi : X.N[i]? = some x := by rfl) (hx : Loc X.env.scope x := by first | exact Or.inl rfl | exact Or.inr rfl)
    (hf : X.fn x = true ∨ X.env.scope.names.lookup x = some .local := by first | exact .inl rfl | exact .inr rfl) : DG X (.Name x pos) (setD i) := by
  refine ⟨_, pg_name hN hi hx hf, fun v d σ H en Q l E r post => ?_⟩
  unfold setD at post
  split at post
  · next hfree => exact post _ ((Stp.refl E).setV hfree r)
  · exact post.elim
theorem dgs_nil : DGs X [] nilG := by
  refine ⟨_, pgs_nil, fun vs ds σ H en Q l E r post => ?_⟩
  cases r with
  | nil => exact ⟨rfl, post σ (Stp.refl E)⟩
  | cons _ _ => exact post.elim
theorem dgs_cons (h1 : DG X tg g) (h2 : DGs X tgs gs) (hs : (assignEach (tg :: tgs) X.env).map (·.2) = assign tg X.env :: (assignEach tgs X.env).map (·.2) := by rfl) : DGs X (tg :: tgs) (consG g gs) := by
  obtain ⟨t, p, k⟩ := h1.ex
  obtain ⟨ts, ps, ks⟩ := h2.ex
  refine ⟨_, pgs_cons p ps hs, fun vs ds σ H en Q l E r post => ?_⟩
  cases r with
  | nil => exact post.elim
  | @cons v vs d ds r t =>
    refine ⟨_, _, rfl, k _ _ σ H en _ l E r ?_⟩
    have post : PostT X σ H en ((g d en).bind (gs ds)) Q := post
    cases q : g d en with
    | none => rw [q] at post; exact post.elim
    | some en1 =>
      rw [q] at post
      have post : PostT X σ H en (gs ds en1) Q := post
      intro σ1 s1
      refine ks _ _ σ1 H en1 Q l s1.er t ?_
      cases q2 : gs ds en1 with
      | none => rw [q2] at post; exact post.elim
      | some en2 => rw [q2] at post; exact fun σ2 s2 => post σ2 (s1.trans s2)
theorem dg_tup {k n : Nat} (hc : X.calm = true) (h : DGs X tgs gs) (hn : (assignEach tgs X.env).length = n := by rfl) (hst : (assignEach tgs X.env).findIdx? (·.1) = none := by rfl) : DG X (.Tuple tgs k pos) (tupG n gs) := by
  obtain ⟨ts, ps, ks⟩ := h.ex
  refine ⟨_, pg_tup hc ps hn hst, fun v d σ H en Q l E r post => ?_⟩
  cases d with
  | tup ds =>
    unfold tupG at post
    simp only at post
    split at post
    · next hl =>
      cases r with
      | tup q t => exact ⟨_, _, rfl, q, by rw [t.length]; exact hl, ks _ _ σ H en Q l E t post⟩
    · exact post.elim
  | _ => exact post.elim
end

/-! ### what is walked -/
/-- the walk's items; lk: a slot's thing that must stand still -/
def WR (X : Cx) (σ : L2.St) (H : Hp) (J : It) (ds : List D) (lk : Option Nat) : Prop :=
  ds.length ≤ sizeLine ∧ ∃ (G : Hp → Prop) (Y : Nat → Hp → V → Hp → Prop), Walk J ds.length G Y ∧ (∀ H', Mo H H' → (∀ i a, lk = some i → σ[i]? = some (some (.ref a)) → H' a = H a) → G H') ∧
    ∀ i H1 x H2, Mo H H1 → Y i H1 x H2 → Same H1 H2 ∧ (Lim X.K H1 → Lim X.K H2) ∧ ∃ d, ds[i]? = some d ∧ Dr X.K X.mg H2 x d
abbrev Src := List D × Option Nat
structure DI (X : Cx) (W : WX) (tg iter : Expr) (f : M Src) : Prop where
  ex : ∃ wi : TI, PI X tg iter wi ∧ ∀ σ H en R, Lim X.K H → EnR X.K X.mg σ H en → PostG X.K X.mg W σ H en (fun H' _ J p => WR X σ H' J p.1 p.2) (f en) R → wi σ H R
def rangeL (lo : Int) (n : Nat) : List D := (List.range n).map fun (k : Nat) => .int (lo + (k : Int))
def rng1 (a : M R) : M Src := M.bnd a fun r en => match peek en r with
  | some (.int j) => if -16777216 ≤ j ∧ j ≤ 16777216 then .ok (rangeL 0 j.toNat, none) en else .bad
  | _ => .bad
def rng2 (a b : M R) : M Src := M.bnd a fun r => M.bnd b fun s en => match peek en r, peek en s with
  | some (.int i), some (.int j) => if (-8388608 ≤ i ∧ i ≤ 8388608) ∧ -8388608 ≤ j ∧ j ≤ 8388608 then .ok (rangeL i (j - i).toNat, none) en else .bad
  | _, _ => .bad
def seqN (i : Nat) : M Src := fun en => match en[i]? with
  | some (.v (.lst ds)) => .ok (ds, none) en
  | some (.v (.tup ds)) => .ok (ds, none) en
  | some (.mu _ (.lst ds)) => .ok (ds, some i) en
  | _ => .bad
def seqV (a : M D) : M Src := M.bnd a fun d en => match d with
  | .lst ds => .ok (ds, none) en
  | .tup ds => .ok (ds, none) en
  | _ => .bad
section
variable {X : Cx} {W : WX} {tg e a b : Expr} {f : M Src} {fa fb : M R} {fd : M D} {p pos : Pos}
theorem PI.or {wi wi' : TI} (h : PI X tg e wi) (h' : PI X tg e wi') : PI X tg e (fun σ H R => wi σ H R ∨ wi' σ H R) := ⟨fun pins s σ H R I q => by
  rcases q with q | q
  · exact h.run pins s σ H R I q
  · exact h'.run pins s σ H R I q⟩
theorem rangeL_get {lo : Int} {n i : Nat} (h : i < n) : (rangeL lo n)[i]? = some (.int (lo + (i : Int))) := by
  unfold rangeL
  rw [List.getElem?_map, List.getElem?_range h]
  rfl
theorem rangeL_len {lo : Int} {n : Nat} : (rangeL lo n).length = n := by unfold rangeL; rw [List.length_map, List.length_range]
theorem wr_range {σ : L2.St} {H : Hp} {lo : Int} {n : Nat} (hn : n ≤ sizeLine) : WR X σ H (Itr lo n) (rangeL lo n) none := by
  refine ⟨by rw [rangeL_len]; exact hn, fun _ => True, fun i H x H' => i < n ∧ H' = H ∧ x = .int (lo + i), ⟨fun i _ hi _ => by rw [rangeL_len] at hi; exact hi, fun _ _ => by rw [rangeL_len]; exact Nat.le_refl _, fun i H x H' hi _ y => ⟨by rw [rangeL_len] at hi; exact hi, y⟩⟩, fun _ _ _ => trivial, fun i H1 x H2 _ y => ?_⟩
  obtain ⟨hi, rfl, rfl⟩ := y
  exact ⟨Same.refl _, id, _, rangeL_get hi, .int _⟩
theorem di_range1 (hg : Gl X "range") (hm : X.mg "range" = none) (ha : DE X W a fa) (hs : starEach [a] X.env = [(false, eval a X.env)] := by rfl) : DI X W tg (.Call (.Name "range" p) [a] [] pos) (rng1 fa) := by
  obtain ⟨ta, pa, ka⟩ := (da_cons ha da_nil hs).ex
  obtain ⟨t0, p0, k0⟩ := ha.ex
  refine ⟨_, pi_range1 hg hm (pa_cons p0 pa_nil hs) hs, fun σ H en R l E post => ?_⟩
  refine k0 σ H en _ l E (PostG.bindAt (Stp.refl E) post fun r1 en1 v1 H1 _ l1 s1 rr1 post1 => ?_)
  split at post1
  · next j h =>
    split at post1
    · next c =>
      refine ⟨j, by rw [Rb.int (Rb.peek s1.er rr1 h)], by omega, by omega, post1 _ H1 l1 s1 (wr_range (by rw [sizeLine_eq]; omega))⟩
    · exact post1.elim
  · exact post1.elim
theorem di_range2 (hg : Gl X "range") (hm : X.mg "range" = none) (ha : DE X W a fa) (hb : DE X W b fb) (hs : starEach [a, b] X.env = [(false, eval a X.env), (false, eval b X.env)] := by rfl) (hs2 : starEach [b] X.env = [(false, eval b X.env)] := by rfl) :
    DI X W tg (.Call (.Name "range" p) [a, b] [] pos) (rng2 fa fb) := by
  obtain ⟨ta, pa, ka⟩ := ha.ex
  obtain ⟨tb, pb, kb⟩ := hb.ex
  refine ⟨_, pi_range2 hg hm (pa_cons pa (pa_cons pb pa_nil hs2) (by rw [hs, hs2])) hs hs2, fun σ H en R l E post => ?_⟩
  refine ka σ H en _ l E (PostG.bindAt (Stp.refl E) post fun r1 en1 v1 H1 _ l1 s1 rr1 post1 => ?_)
  refine kb σ H1 en1 _ l1 s1.er (PostG.bindAt s1 post1 fun r2 en2 v2 H2 _ l2 s2 rr2 post2 => ?_)
  split at post2
  · next i j h1 h2 =>
    split at post2
    · next c =>
      refine ⟨i, j, by rw [Rb.int (Rb.peek s2.er (RR.later s1.er rr1 s2) h1), Rb.int (Rb.peek s2.er rr2 h2)], ⟨by omega, by omega, by omega, by omega⟩, post2 _ H2 l2 (s1.trans s2) (wr_range (by rw [sizeLine_eq]; omega))⟩
    · exact post2.elim
  · exact post2.elim
theorem wr_list {σ : L2.St} {H : Hp} (l' : Lim X.K H) {l : Addr} {xs : List V} {ds : List D} {lk : Option Nat} (h : SqL X.K H l xs) (t : DrL X.K X.mg H xs ds) (hk : FzL X.K H l xs ∨ ∃ i, lk = some i ∧ σ[i]? = some (some (.ref l))) : WR X σ H (Itl X.K l) ds lk := by
  refine ⟨by rw [← t.length]; exact l' _ _ (.inl h), _, _, t.length ▸ walk_list (K := X.K) (a := l) (xs := xs), fun H' m st => ?_, fun i H1 x H2 m y => ?_⟩
  · rcases hk with z | ⟨i, e, q⟩
    · exact (z.mo m).sq
    · rcases h with (h | ⟨o, h⟩) | h
      · exact .inl (.inl ((st i l e q).trans h))
      · exact .inl (.inr ⟨o, m.frz _ _ _ h⟩)
      · exact .inr h
  · obtain ⟨rfl, e⟩ := y
    obtain ⟨d, hd, r⟩ := t.getV e
    exact ⟨Same.refl _, id, d, hd, r.mo m⟩
theorem wr_tup {σ : L2.St} {H : Hp} (l' : Lim X.K H) {l : Addr} {xs : List V} {ds : List D} {lk : Option Nat} (h : SqT X.K H l xs) (t : DrL X.K X.mg H xs ds) : WR X σ H (Itt X.K l) ds lk := by
  refine ⟨by rw [← t.length]; exact l' _ _ (.inr h), _, _, t.length ▸ walk_tup (K := X.K) (a := l) (xs := xs), fun H' m st => sqT_mo m h, fun i H1 x H2 m y => ?_⟩
  obtain ⟨rfl, e⟩ := y
  obtain ⟨d, hd, r⟩ := t.getV e
  exact ⟨Same.refl _, id, d, hd, r.mo m⟩
theorem di_var (i : Nat) {x : Str} (hN : X.N[i]? = some x := by rfl) (hv : Vis X.env.scope x := by first | exact Or.inl rfl | exact Or.inr (Or.inl rfl) | exact Or.inr (Or.inr rfl)) (hd : (x == ("__debug__" : Str)) = false := by decide)
    (hcd : (x == ("__classdict__" : Str)) = false := by decide) : DI X W tg (.Name x pos) (seqN i) := by
  refine ⟨_, PI.or (pi_list (pe_var hN hv hd hcd)) (pi_tup (pe_var hN hv hd hcd)), fun σ H en R l E post => ?_⟩
  unfold seqN at post
  split at post
  · next ds h =>
    obtain ⟨v, q, r⟩ := E.val i _ h
    cases r with
    | lst q1 t => exact .inl ⟨_, q, _, rfl, ⟨_, q1.sq⟩, post _ H l (Stp.refl E) (wr_list l q1.sq t (.inl q1))⟩
  · next ds h =>
    obtain ⟨v, q, r⟩ := E.val i _ h
    cases r with
    | tup q1 t => exact .inr ⟨_, q, _, rfl, ⟨_, q1⟩, post _ H l (Stp.refl E) (wr_tup l q1 t)⟩
  · next k ds h =>
    obtain ⟨a, q, m⟩ := E.mu i _ _ h
    obtain ⟨xs, hx, t⟩ := m
    exact .inl ⟨_, q, a, rfl, ⟨_, SqL.of hx⟩, post _ H l (Stp.refl E) (wr_list l (SqL.of hx) t (.inr ⟨i, rfl, q⟩))⟩
  · exact post.elim
theorem di_val (h : DV X W e fd) : DI X W tg e (seqV fd) := by
  obtain ⟨t, p, k⟩ := h.ex
  refine ⟨_, PI.or (pi_list p) (pi_tup p), fun σ H en R l E post => ?_⟩
  cases q : fd en with
  | ok d en1 =>
    have post : PostG X.K X.mg W σ H en (fun H' _ J p => WR X σ H' J p.1 p.2) ((M.bnd fd fun d en => match d with
      | .lst ds => .ok (ds, none) en
      | .tup ds => .ok (ds, none) en
      | _ => .bad) en) R := post
    rw [bnd_ok q] at post
    cases d with
    | lst ds =>
      refine .inl (k σ H en _ l E ?_)
      rw [q]
      intro v H1 l1 s1 r
      cases r with
      | lst q1 t => exact ⟨_, rfl, ⟨_, q1.sq⟩, post _ H1 l1 s1 (wr_list l1 q1.sq t (.inl q1))⟩
    | tup ds =>
      refine .inr (k σ H en _ l E ?_)
      rw [q]
      intro v H1 l1 s1 r
      cases r with
      | tup q1 t => exact ⟨_, rfl, ⟨_, q1⟩, post _ H1 l1 s1 (wr_tup l1 q1 t)⟩
    | _ => exact post.elim
  | err x en1 =>
    have post : PostG X.K X.mg W σ H en (fun H' _ J p => WR X σ H' J p.1 p.2) ((M.bnd fd fun d en => match d with
      | .lst ds => .ok (ds, none) en
      | .tup ds => .ok (ds, none) en
      | _ => .bad) en) R := post
    rw [bnd_err q] at post
    refine .inl (k σ H en _ l E ?_)
    rw [q]
    exact post
  | bad =>
    have post : PostG X.K X.mg W σ H en (fun H' _ J p => WR X σ H' J p.1 p.2) ((M.bnd fd fun d en => match d with
      | .lst ds => .ok (ds, none) en
      | .tup ds => .ok (ds, none) en
      | _ => .bad) en) R := post
    rw [bnd_bad q] at post
    exact post.elim
end

/-! ### for -/
def tgM (o : En → Option En) : M Unit := fun en => match o en with
  | some en' => .ok () en'
  | none => .bad
/-- behind a turn's body -/
def turnS (k : S) : Fl → S
  | .nx => k
  | .ct => k
  | .bk => nopS
  | .rt r => fun en => .ok (.rt r) en
def forL (g : TgF) (body : S) : List D → S
  | [] => nopS
  | d :: ds => M.bnd (tgM (g d)) fun _ => M.bnd body (turnS (forL g body ds))
/-- with a slot's thing standing still -/
def lockS {α : Type} (i : Nat) (m : M α) : M α := fun en => match en[i]? with
  | some (.mu k d) => (match m (en.set i (.mu .lck d)) with
    | .ok a en' => .ok a (en'.set i (.mu k d))
    | .err x en' => .err x (en'.set i (.mu k d))
    | .bad => .bad)
  | _ => .bad
def withSrc {α : Type} (p : Src) (k : List D → M α) : M α := match p.2 with
  | none => k p.1
  | some i => lockS i (k p.1)
def forS (src : M Src) (g : TgF) (body : S) : S := M.bnd src fun p => withSrc p (forL g body)
section
variable {K : PySem.W.Frag} {mg : Str → Option Value} {σ σ1 : L2.St} {H H1 : Hp} {en en1 : En}
theorem EnR.lck (E : EnR K mg σ H en) {i : Nat} {k k' : Mk} {d : D} (e : en[i]? = some (.mu k d)) : EnR K mg σ H (en.set i (.mu k' d)) := by
  have hi : i < en.length := (List.getElem?_eq_some_iff.mp e).1
  have look : ∀ (j : Nat) (k1 : Mk) (x : D), (en.set i (.mu k' d))[j]? = some (.mu k1 x) → ∃ k2, en[j]? = some (.mu k2 x) := fun j k1 x h => by
    by_cases hj : i = j
    · subst hj; rw [List.getElem?_set_self hi] at h; cases h; exact ⟨k, e⟩
    · rw [List.getElem?_set_ne hj] at h; exact ⟨k1, h⟩
  refine ⟨by rw [List.length_set]; exact E.len, fun j x h => ?_, fun j k1 x h => ?_, fun j l a k1 x k2 y h1 h2 => ?_⟩
  · have hj : i ≠ j := fun z => by subst z; rw [List.getElem?_set_self hi] at h; cases h
    rw [List.getElem?_set_ne hj] at h
    exact E.val j x h
  · obtain ⟨k2, h'⟩ := look j k1 x h
    exact E.mu j k2 x h'
  · obtain ⟨k1', h1'⟩ := look j k1 x h1
    obtain ⟨k2', h2'⟩ := look l k2 y h2
    exact E.dist j l a k1' x k2' y h1' h2'
theorem am_lck {i : Nat} {k k' : Mk} {d : D} (e : en[i]? = some (.mu k d)) {a : Addr} : AM σ (en.set i (.mu k' d)) a ↔ AM σ en a := by
  have hi : i < en.length := (List.getElem?_eq_some_iff.mp e).1
  constructor
  · rintro ⟨j, k1, x, h, q⟩
    by_cases hj : i = j
    · subst hj; rw [List.getElem?_set_self hi] at h; cases h; exact ⟨i, k, d, e, q⟩
    · rw [List.getElem?_set_ne hj] at h; exact ⟨j, k1, x, h, q⟩
  · rintro ⟨j, k1, x, h, q⟩
    by_cases hj : i = j
    · subst hj; rw [e] at h; cases h; exact ⟨i, k', d, List.getElem?_set_self hi, q⟩
    · exact ⟨j, k1, x, by rw [List.getElem?_set_ne hj]; exact h, q⟩
theorem ma_lck {i : Nat} {k : Mk} {d : D} (e : en[i]? = some (.mu k d)) {a : Addr} (h : MA σ (en.set i (.mu .lck d)) a) : MA σ en a := by
  have hi : i < en.length := (List.getElem?_eq_some_iff.mp e).1
  obtain ⟨j, k1, x, h, hk, q⟩ := h
  by_cases hj : i = j
  · subst hj; rw [List.getElem?_set_self hi] at h; cases h; exact absurd rfl hk
  · rw [List.getElem?_set_ne hj] at h; exact ⟨j, k1, x, h, hk, q⟩
/-- behind the lock -/
theorem Stp.unlock {i : Nat} {k : Mk} {d : D} (e : en[i]? = some (.mu k d)) (s : Stp K mg σ H (en.set i (.mu .lck d)) σ1 H1 en1) : Stp K mg σ H en σ1 H1 (en1.set i (.mu k d)) ∧ en1[i]? = some (.mu .lck d) ∧ σ1[i]? = σ[i]? := by
  have hi : i < en.length := (List.getElem?_eq_some_iff.mp e).1
  obtain ⟨s1, d', e1, l1⟩ := s.kp i .lck d (List.getElem?_set_self hi) (by decide)
  have e1 : en1[i]? = some (.mu .lck d) := by rw [← l1 rfl]; exact e1
  have hi1 : i < en1.length := (List.getElem?_eq_some_iff.mp e1).1
  refine ⟨⟨fun b o h n => s.fr b o h fun z => n (ma_lck e z), s.er.lck e1, fun a z => ?_, fun a z => ?_, fun j k1 x h hk => ?_, by rw [List.length_set, s.ln, List.length_set]⟩, e1, s1⟩
  · obtain ⟨j, k1, x, h, hk, q⟩ := z
    by_cases hj : i = j
    · subst hj
      rw [List.getElem?_set_self hi1] at h
      cases h
      exact .inl ⟨i, k, d, e, hk, by rw [← s1]; exact q⟩
    · rw [List.getElem?_set_ne hj] at h
      exact (s.ma a ⟨j, k1, x, h, hk, q⟩).imp (fun z => ma_lck e z) id
  · exact (s.am a ((am_lck e1).mp z)).imp (fun z => (am_lck e).mp z) id
  · by_cases hj : i = j
    · subst hj
      rw [e] at h; cases h
      exact ⟨s1, d, List.getElem?_set_self hi1, fun _ => rfl⟩
    · obtain ⟨s2, d2, e2, l2⟩ := s.kp j k1 x (by rw [List.getElem?_set_ne hj]; exact h) hk
      exact ⟨s2, d2, by rw [List.getElem?_set_ne hj]; exact e2, l2⟩
theorem RR.unlock {i : Nat} {k : Mk} {d : D} (e : en[i]? = some (.mu k d)) {v : V} {r : R} (e1 : en1[i]? = some (.mu .lck d)) (h : RR K mg σ H (en.set i (.mu .lck d)) σ1 H1 en1 v r) : RR K mg σ H en σ1 H1 (en1.set i (.mu k d)) v r := by
  cases r with
  | v x => exact h
  | al j => exact h
  | fr x =>
    obtain ⟨a, q, m, n, w⟩ := h
    exact ⟨a, q, m, fun z => n ((am_lck e1).mp z), w.imp (fun z => ma_lck e z) id⟩
end
section
variable {X : Cx} {W : WX} {tg iter : Expr} {body : List Stmt} {pos : Pos} {src : M Src} {g : TgF} {f : S} {c : Expr} {fc : M Bool}
theorem tgM_ok {o : En → Option En} {en en1 : En} (h : o en = some en1) : tgM o en = .ok () en1 := by unfold tgM; rw [h]
theorem tgM_bad {o : En → Option En} {en : En} (h : o en = none) : tgM o en = .bad := by unfold tgM; rw [h]
/-- the body of a turn -/
theorem turn_body {tb : TS} {σ : L2.St} {H : Hp} {en : En} {k : S} {D0 : Ends} {N : L2.St → Hp → Prop} (kb : ∀ σ H en D, Lim X.K H → EnR X.K X.mg σ H en → PostS X W σ H en (f en) D → tb D σ H)
    (l : Lim X.K H) (E : EnR X.K X.mg σ H en) (post : PostS X W σ H en ((M.bnd f (turnS k)) en) D0) (hN : ∀ σ2 H2 en2, Lim X.K H2 → Stp X.K X.mg σ H en σ2 H2 en2 → PostS X W σ2 H2 en2 (k en2) D0 → N σ2 H2) :
    tb { D0 with nx := N, ct := N, bk := D0.nx } σ H := by
  refine kb σ H en _ l E ?_
  cases q2 : f en with
  | ok fl en2 =>
    rw [bnd_ok q2] at post
    cases fl with
    | nx => exact fun σ2 H2 l2 s2 => hN σ2 H2 en2 l2 s2 (PostS.shift s2 post)
    | ct => exact fun σ2 H2 l2 s2 => hN σ2 H2 en2 l2 s2 (PostS.shift s2 post)
    | bk => exact post
    | rt r => exact post
  | err x en2 => rw [bnd_err q2] at post; exact post
  | bad => rw [bnd_bad q2] at post; exact post
/-- the loop itself, over a walk -/
theorem for_walk {J : It} {ds : List D} {lk : Option Nat} {tG : TG} {tb : TS} {σ : L2.St} {H : Hp} {en : En} {D : Ends}
    (kg : ∀ v d σ H en Q, Lim X.K H → EnR X.K X.mg σ H en → Dr X.K X.mg H v d → PostT X σ H en (g d en) Q → tG v σ H Q) (kb : ∀ σ H en D, Lim X.K H → EnR X.K X.mg σ H en → PostS X W σ H en (f en) D → tb D σ H)
    (w : WR X σ H J ds lk) (l : Lim X.K H) (E : EnR X.K X.mg σ H en) (hlk : ∀ i, lk = some i → ∃ d, en[i]? = some (.mu .lck d)) (post : PostS X W σ H en (forL g f ds en) D) :
    ∃ Wi : Nat → Nat → L2.St → Hp → Prop, (∃ m, Wi 0 m σ H) ∧ ∀ i m σ' H', Wi i m σ' H' →
      (J.stop i H' ∧ D.nx σ' H') ∨ (J.go i H' ∧ ∃ N : L2.St → Hp → Prop, (∀ σ2 H2, N σ2 H2 → ∃ m', m' < m ∧ Wi (i + 1) m' σ2 H2) ∧ ∀ x H2, J.yld i H' x H2 → tG x σ' H2 fun σ3 H3 => tb { D with nx := N, ct := N, bk := D.nx } σ3 H3) := by
  obtain ⟨_, G, Y, wk, hG, hY⟩ := w
  refine ⟨fun i m σ' H' => m = ds.length - i ∧ i ≤ ds.length ∧ Lim X.K H' ∧ ∃ en', Stp X.K X.mg σ H en σ' H' en' ∧ PostS X W σ' H' en' (forL g f (ds.drop i) en') D, ⟨_, rfl, Nat.zero_le _, l, en, Stp.refl E, by rw [List.drop_zero]; exact post⟩, ?_⟩
  rintro i m σ' H' ⟨rfl, hi, l', en', s', post'⟩
  have still : ∀ {H2 : Hp}, Mo H H2 → (∀ b o, H b = some o → ¬ MA σ en b → H2 b = some o) → G H2 := fun {H2} m2 f2 => hG H2 m2 fun j a e q => by
    obtain ⟨d, hd⟩ := hlk j e
    obtain ⟨a', q', mu⟩ := E.mu j _ d hd
    rw [q] at q'; cases q'
    obtain ⟨u, hu, _⟩ := mu.ne
    rw [hu]
    refine f2 a u hu fun z => ?_
    obtain ⟨j2, k2, d2, h2, hk2, q2⟩ := z
    have := E.dist j j2 a _ d k2 d2 hd h2 q q2
    subst this
    rw [hd] at h2; cases h2; exact hk2 rfl
  by_cases hlt : i < ds.length
  · refine .inr ⟨wk.goes i H' hlt (still (s'.mo E) s'.fr), fun σ2 H2 => Lim X.K H2 ∧ ∃ en2, Stp X.K X.mg σ H en σ2 H2 en2 ∧ PostS X W σ2 H2 en2 (forL g f (ds.drop (i + 1)) en2) D, fun σ2 H2 ⟨l2, en2, s2, p2⟩ => ⟨ds.length - (i + 1), by omega, rfl, hlt, l2, en2, s2, p2⟩, fun x H2 y => ?_⟩
    obtain ⟨sm, lm, d, hd, r⟩ := hY i H' x H2 (s'.mo E) (wk.yields i H' x H2 hlt (still (s'.mo E) s'.fr) y)
    have hdd : ds.drop i = d :: ds.drop (i + 1) := by
      obtain ⟨h1, h2⟩ := List.getElem?_eq_some_iff.mp hd
      rw [List.drop_eq_getElem_cons h1, h2]
    rw [hdd] at post'
    have sx : Stp X.K X.mg σ' H' en' σ' H2 en' := Stp.same s'.er sm
    have post2 := PostS.shift sx post'
    have s2 := s'.trans sx
    have l2 := lm l'
    have post2 : PostS X W σ' H2 en' ((M.bnd (tgM (g d)) fun _ => M.bnd f (turnS (forL g f (ds.drop (i + 1))))) en') D := post2
    cases q : g d en' with
    | none => rw [bnd_bad (tgM_bad q)] at post2; exact post2.elim
    | some en3 =>
      rw [bnd_ok (tgM_ok q)] at post2
      refine kg x d σ' H2 en' _ l2 s2.er r ?_
      rw [q]
      intro σ3 s3
      exact turn_body (f := f) (k := forL g f (ds.drop (i + 1))) kb l2 s3.er (PostS.shift s3 post2) fun σ4 H4 en4 l4 s4 p4 => ⟨l4, en4, (s2.trans s3).trans s4, p4⟩
  · have e : i = ds.length := by omega
    subst e
    rw [List.drop_length] at post'
    exact .inl ⟨wk.stops H' (still (s'.mo E) s'.fr), post' σ' H' l' (Stp.refl s'.er)⟩
/-- what is wanted within a lock -/
theorem lock_post {σ : L2.St} {H : Hp} {en : En} {i : Nat} {m : S} {D : Ends} (h : PostS X W σ H en (lockS i m en) D) : ∃ k d, en[i]? = some (.mu k d) ∧ PostS X W σ H (en.set i (.mu .lck d)) (m (en.set i (.mu .lck d))) D := by
  unfold lockS at h
  split at h
  · next k d e =>
    refine ⟨k, d, e, ?_⟩
    split at h
    · next fl en' q =>
      rw [q]
      cases fl with
      | nx => exact fun σ' H' l z => h σ' H' l (z.unlock e).1
      | bk => exact fun σ' H' l z => h σ' H' l (z.unlock e).1
      | ct => exact fun σ' H' l z => h σ' H' l (z.unlock e).1
      | rt r => exact fun v σ' H' l z rr => h v σ' H' l (z.unlock e).1 (RR.unlock e (z.unlock e).2.1 rr)
    · next x en' q => rw [q]; exact fun cls d' σ' H' z x' => h cls d' σ' H' (z.unlock e).1 x'
    · exact h.elim
  · exact h.elim
theorem ds_for (hp : PassesOwn (model X.prog X.w) X.A X.env X.xe) (hc : X.calm = true) (hi : DI X W tg iter src) (hg : DG X tg g) (hb : DSs X W body f) (hs : ∀ x, foldedSetIterable iter X.env x = pure x := by intro _; rfl) : DS X W (.For tg iter body [] pos) (forS src g f) := by
  obtain ⟨wi, pi, ki⟩ := hi.ex
  obtain ⟨tG, pg, kg⟩ := hg.ex
  obtain ⟨tb, pb, kb⟩ := hb.ex
  refine DS.mk' (ps_for hp hc pi pg pb hs) fun σ H en D l E post => ?_
  refine ki σ H en _ l E (PostS.expr E post fun p en1 J H1 _ l1 s1 rr q => ?_)
  obtain ⟨ds, lk⟩ := p
  have q := (PostS.shift s1 q).lim
  cases lk with
  | none => exact for_walk kg kb rr l1 s1.er (fun i e => nomatch e) q
  | some i =>
    obtain ⟨k, d, e, q2⟩ := lock_post (m := forL g f ds) q
    have hi : i < en1.length := (List.getElem?_eq_some_iff.mp e).1
    exact for_walk kg kb rr l1 (s1.er.lck e) (fun j e' => by cases e'; exact ⟨d, List.getElem?_set_self hi⟩) q2
/-- while: at most n turns -/
def whileS (c : M Bool) (f : S) : Nat → S
  | 0 => badS
  | n + 1 => M.bnd c fun k => if k then M.bnd f (turnS (whileS c f n)) else nopS
theorem ds_while {n : Nat} (hp : PassesOwn (model X.prog X.w) X.A X.env X.xe) (hc : DT X W c fc) (hb : DSs X W body f) : DS X W (.While c body [] pos) (whileS fc f n) := by
  obtain ⟨tc, pc, kc⟩ := hc.ex
  obtain ⟨tb, pb, kb⟩ := hb.ex
  refine DS.mk' (ps_while hp pc pb) fun σ H en D l E post => ?_
  refine ⟨fun m σ' H' => Lim X.K H' ∧ ∃ en', Stp X.K X.mg σ H en σ' H' en' ∧ PostS X W σ' H' en' (whileS fc f m en') (limE X.K D), ⟨n, l, en, Stp.refl E, post.lim⟩, ?_⟩
  rintro m σ' H' ⟨l', en', s', post'⟩
  cases m with
  | zero => exact post'.elim
  | succ m =>
    refine kc σ' H' en' _ l' s'.er (PostS.expr s'.er post' fun k en1 b H1 _ l1 s1 rr q => ?_)
    subst rr
    cases b with
    | false =>
      rw [if_neg Bool.false_ne_true]
      exact q _ H1 l1 s1
    | true =>
      rw [if_pos rfl]
      refine ⟨fun σ2 H2 => Lim X.K H2 ∧ ∃ en2, Stp X.K X.mg σ H en σ2 H2 en2 ∧ PostS X W σ2 H2 en2 (whileS fc f m en2) (limE X.K D), fun σ2 H2 ⟨l2, en2, s2, p2⟩ => ⟨m, Nat.lt_succ_self m, l2, en2, s2, p2⟩, ?_⟩
      exact turn_body (D0 := limE X.K D) (f := f) (k := whileS fc f m) kb l1 s1.er (PostS.shift s1 q) fun σ4 H4 en4 l4 s4 p4 => ⟨l4, en4, (s'.trans s1).trans s4, p4⟩
end
end Fw
set_option Elab.async false
set_option linter.all false
set_option maxRecDepth 100000
set_option maxHeartbeats 4000000
namespace Fw
open PySem PySem.Spec PyProof.Rows L2

/-! ### defs -/
abbrev Fn := List Sl → Out R
def outs : List Sl → En → List Sl
  | [], _ => []
  | s :: ss, [] => s :: outs ss []
  | .mu _ _ :: ss, e :: es => e :: outs ss es
  | s :: ss, _ :: es => s :: outs ss es
/-- a def of n further locals, by its body -/
def fnD (n : Nat) (body : S) : Fn := fun sls => match body (sls ++ List.replicate n .no) with
  | .ok (.rt (.al _)) _ => .bad
  | .ok (.rt r) en' => .ok r (outs sls en')
  | .ok .nx en' => .ok (.v .non) (outs sls en')
  | .ok _ _ => .bad
  | .err x en' => .err x (outs sls en')
  | .bad => .bad
def noOwn (sls : List Sl) : Prop := ∀ (i : Nat) k d, sls[i]? = some (.mu k d) → k ≠ .own
def PostF (K : PySem.W.Frag) (mg : Str → Option Value) (vs : List V) (H : Hp) (sls : List Sl) (o : Out R) (Q : VK) (E : XK) : Prop := match o with
  | .ok r os => ∀ v H', Lim K H' → Stp K mg (vs.map some) H sls (vs.map some) H' os → RR K mg (vs.map some) H sls (vs.map some) H' os v r → Q v H'
  | .err x os => ∀ cls d H', Stp K mg (vs.map some) H sls (vs.map some) H' os → ExR mg cls d x → E cls d H'
  | .bad => False
/-- a def's promise: what F says of data -/
def spD (K : PySem.W.Frag) (mg : Str → Option Value) (n : Nat) (F : Fn) : Sp := fun vs H Q E => vs.length = n ∧ ∃ sls, EnR K mg (vs.map some) H sls ∧ noOwn sls ∧ PostF K mg vs H sls (F sls) Q E

section
variable {K : PySem.W.Frag} {mg : Str → Option Value}
theorem outs_len : ∀ (sls : List Sl) (en : En), (outs sls en).length = sls.length
  | [], _ => rfl
  | s :: ss, [] => by unfold outs; rw [List.length_cons, List.length_cons, outs_len ss []]
  | .no :: ss, e :: es => by simp only [outs, List.length_cons, outs_len ss es]
  | .v _ :: ss, e :: es => by simp only [outs, List.length_cons, outs_len ss es]
  | .mu _ _ :: ss, e :: es => by simp only [outs, List.length_cons, outs_len ss es]
theorem outs_get : ∀ (sls : List Sl) (en : En) (i : Nat), sls.length ≤ en.length → (outs sls en)[i]? = match sls[i]? with
    | some (.mu _ _) => en[i]?
    | x => x
  | [], _, _, _ => by simp [outs]
  | s :: ss, [], i, h => by simp at h
  | s :: ss, e :: es, 0, h => by cases s <;> simp [outs]
  | s :: ss, e :: es, i + 1, h => by
    have ih := outs_get ss es i (by simpa using h)
    cases s <;> simpa [outs] using ih
variable {N ps : List Str} {vs : List V} {H H' : Hp} {sls : List Sl} {n : Nat} {σ' : L2.St} {en' : En}
theorem start_eq (hl : N.length = vs.length + n) : L2.start N vs = vs.map some ++ List.replicate n none := by
  unfold L2.start
  congr 2
  omega
/-- the slots at a def's entry -/
theorem EnR.begin (E : EnR K mg (vs.map some) H sls) (hl : N.length = vs.length + n) : EnR K mg (L2.start N vs) H (sls ++ List.replicate n .no) := by
  rw [start_eq hl]
  have len : vs.length = sls.length := by have := E.len; simpa using this
  have look : ∀ (i : Nat) (x : Sl), (sls ++ List.replicate n .no)[i]? = some x → x ≠ .no → sls[i]? = some x ∧ i < sls.length := fun i x h hx => by
    by_cases hi : i < sls.length
    · rw [List.getElem?_append_left hi] at h; exact ⟨h, hi⟩
    · rw [List.getElem?_append_right (by omega), List.getElem?_replicate] at h
      split at h
      · cases h; exact absurd rfl hx
      · cases h
  have sl : ∀ (i : Nat), i < sls.length → (vs.map some ++ List.replicate n none)[i]? = (vs.map some)[i]? := fun i hi => List.getElem?_append_left (by rw [List.length_map]; omega)
  refine ⟨by simp [len], fun i d h => ?_, fun i k d h => ?_, fun i j a k d k' d' h1 h2 q1 q2 => ?_⟩
  · obtain ⟨h, hi⟩ := look i _ h (by simp)
    rw [sl i hi]; exact E.val i d h
  · obtain ⟨h, hi⟩ := look i _ h (by simp)
    rw [sl i hi]; exact E.mu i k d h
  · obtain ⟨h1, hi⟩ := look i _ h1 (by simp)
    obtain ⟨h2, hj⟩ := look j _ h2 (by simp)
    rw [sl i hi] at q1
    rw [sl j hj] at q2
    exact E.dist i j a k d k' d' h1 h2 q1 q2
/-- behind the body: what the caller sees -/
theorem Stp.leave (E : EnR K mg (vs.map some) H sls) (no : noOwn sls) (hl : N.length = vs.length + n) (s : Stp K mg (L2.start N vs) H (sls ++ List.replicate n .no) σ' H' en') :
    Stp K mg (vs.map some) H sls (vs.map some) H' (outs sls en') ∧ ∀ v r, RR K mg (L2.start N vs) H (sls ++ List.replicate n .no) σ' H' en' v r → (∀ i, r ≠ .al i) → RR K mg (vs.map some) H sls (vs.map some) H' (outs sls en') v r := by
  have len : vs.length = sls.length := by have := E.len; simpa using this
  have E0 := E.begin (N := N) (n := n) hl
  rw [start_eq hl] at s E0
  have sl : ∀ (i : Nat), i < sls.length → (vs.map some ++ List.replicate n none)[i]? = (vs.map some)[i]? := fun i hi => List.getElem?_append_left (by rw [List.length_map]; omega)
  have el : ∀ (i : Nat), i < sls.length → (sls ++ List.replicate n Sl.no)[i]? = sls[i]? := fun i hi => List.getElem?_append_left hi
  have lt : ∀ (i : Nat) (x : Sl), sls[i]? = some x → i < sls.length := fun i x h => (List.getElem?_eq_some_iff.mp h).1
  have ma0 : ∀ a, MA (vs.map some ++ List.replicate n none) (sls ++ List.replicate n Sl.no) a ↔ MA (vs.map some) sls a := fun a => by
    constructor
    · rintro ⟨i, k, d, h, hk, q⟩
      by_cases hi : i < sls.length
      · exact ⟨i, k, d, by rw [← el i hi]; exact h, hk, by rw [← sl i hi]; exact q⟩
      · rw [List.getElem?_append_right (by omega), List.getElem?_replicate] at h
        split at h <;> cases h
    · rintro ⟨i, k, d, h, hk, q⟩
      exact ⟨i, k, d, by rw [el i (lt i _ h)]; exact h, hk, by rw [sl i (lt i _ h)]; exact q⟩
  -- a lent thing stays in its slot
  have kp : ∀ (i : Nat) (k : Mk) (d : D), sls[i]? = some (.mu k d) → σ'[i]? = (vs.map some)[i]? ∧ ∃ d', en'[i]? = some (.mu k d') ∧ (k = .lck → d' = d) := fun i k d h => by
    obtain ⟨q, r⟩ := s.kp i k d (by rw [el i (lt i _ h)]; exact h) (no i k d h)
    exact ⟨q.trans (sl i (lt i _ h)), r⟩
  have hlen : sls.length ≤ en'.length := by
    have h1 := s.ln
    rw [List.length_append] at h1
    omega
  have og : ∀ (i : Nat) (k : Mk) (d : D), (outs sls en')[i]? = some (.mu k d) → (∃ d0, sls[i]? = some (.mu k d0)) ∧ en'[i]? = some (.mu k d) := fun i k d h => by
    rw [outs_get sls en' i hlen] at h
    split at h
    · next k0 d0 e =>
      obtain ⟨_, d', e', _⟩ := kp i k0 d0 e
      rw [h] at e'; cases e'
      exact ⟨⟨d0, e⟩, h⟩
    · next x n1 =>
      exact absurd h (n1 k d)
  have oi : ∀ (i : Nat) (k : Mk) (d : D), sls[i]? = some (.mu k d) → ∃ d', (outs sls en')[i]? = some (.mu k d') ∧ en'[i]? = some (.mu k d') ∧ (k = .lck → d' = d) := fun i k d h => by
    obtain ⟨_, d', e', l'⟩ := kp i k d h
    refine ⟨d', ?_, e', l'⟩
    rw [outs_get sls en' i hlen, h]
    exact e'
  have er : EnR K mg (vs.map some) H' (outs sls en') := by
    refine ⟨by rw [outs_len]; exact E.len, fun i d h => ?_, fun i k d h => ?_, fun i j a k d k' d' h1 h2 q1 q2 => ?_⟩
    · rw [outs_get sls en' i hlen] at h
      split at h
      · next k0 d0 e =>
        obtain ⟨_, d', e', _⟩ := kp i k0 d0 e
        rw [h] at e'; cases e'
      · obtain ⟨v, q, r⟩ := E.val i d h
        exact ⟨v, q, r.mo (s.mo E0)⟩
    · obtain ⟨⟨d0, e⟩, e'⟩ := og i k d h
      obtain ⟨q, _⟩ := kp i k d0 e
      obtain ⟨a, q2, m⟩ := s.er.mu i k d e'
      exact ⟨a, by rw [← q]; exact q2, m⟩
    · obtain ⟨⟨d0, e⟩, _⟩ := og i k d h1
      obtain ⟨⟨d1, e'⟩, _⟩ := og j k' d' h2
      exact E.dist i j a k d0 k' d1 e e' q1 q2
  have am : ∀ a, AM (vs.map some) (outs sls en') a → AM σ' en' a ∧ AM (vs.map some) sls a := fun a ⟨i, k, d, h, q⟩ => by
    obtain ⟨⟨d0, e⟩, e'⟩ := og i k d h
    exact ⟨⟨i, k, d, e', by rw [(kp i k d0 e).1]; exact q⟩, ⟨i, k, d0, e, q⟩⟩
  refine ⟨⟨fun b o h nb => s.fr b o h fun z => nb ((ma0 b).mp z), er, fun a ⟨i, k, d, h, hk, q⟩ => ?_, fun a z => .inl (am a z).2, fun i k d h hk => ⟨rfl, ?_⟩, by rw [outs_len]⟩, fun v r rr nal => ?_⟩
  · obtain ⟨⟨d0, e⟩, _⟩ := og i k d h
    exact .inl ⟨i, k, d0, e, hk, q⟩
  · obtain ⟨d', h1, _, h3⟩ := oi i k d h
    exact ⟨d', h1, h3⟩
  · cases r with
    | v d => exact rr
    | al i => exact absurd rfl (nal i)
    | fr d =>
      rw [start_eq hl] at rr
      obtain ⟨a, e, m, n1, w⟩ := rr
      exact ⟨a, e, m, fun z => n1 (am a z).1, w.imp (fun z => (ma0 a).mp z) id⟩
end

section
variable {P : Program} {w : World} {K : PySem.W.Frag} {mg : Str → Option Value} {base : Heap}
/-- THE RULE: a def keeps the promise of its body's data -/
theorem fn_ok {x qual : Str} {st : Stmt} {f : Addr} {fd : FuncData} {N ps : List Str} {k n : Nat} {body : S} (F : Fun K x qual st f fd) (S : FnScope N ps (defScope st)) (hl : N.length = ps.length + n)
    (hbody : ∀ (cdv : Value) (A : Around) (outer : List Env) (s : Shared) (H : Hp) (E : XK), Room k (A.deeper (envOfC qual (defScope st) s.heap.objs.size f cdv)) →
      DSs (cxOf (L2.CX P w) P w K mg base N qual (defScope st) f cdv A outer s H E) (fun cls d _ H' => E cls d H') (defBody st) body) :
    FnOk P w K mg base (L2.CX P w) (k + 1) f fd ps (spD K mg ps.length (fnD n body)) := by
  refine F.okX S (fun vs H Q E h => h.1) fun cdv A outer s H vs Q E hr h => ?_
  obtain ⟨hv, sls, er, no, post⟩ := h
  obtain ⟨t, p, k0⟩ := (hbody cdv A outer s H E hr).ex
  refine ⟨_, pss_lim p, fun l => ?_⟩
  have hl' : N.length = vs.length + n := by rw [hv]; exact hl
  refine k0 _ H _ _ l (er.begin hl') (PostS.lim ?_)
  have lv : ∀ {σ' H' en'}, Stp K mg (L2.start N vs) H (sls ++ List.replicate n .no) σ' H' en' → Stp K mg (vs.map some) H sls (vs.map some) H' (outs sls en') ∧ ∀ v r, RR K mg (L2.start N vs) H (sls ++ List.replicate n .no) σ' H' en' v r → (∀ i, r ≠ .al i) → RR K mg (vs.map some) H sls (vs.map some) H' (outs sls en') v r :=
    fun s => Stp.leave er no hl' s
  unfold fnD at post
  split at post
  · exact post.elim
  · next r en' nal e =>
    rw [e]
    intro v σ' H' l' s' rr
    exact post v H' l' (lv s').1 ((lv s').2 v r rr fun i z => nal i z)
  · next en' e =>
    rw [e]
    intro σ' H' l' s'
    exact post .non H' l' (lv s').1 .non
  · exact post.elim
  · next x en' e =>
    rw [e]
    intro cls d σ' H' s' x'
    exact post cls d H' (lv s').1 x'
  · exact post.elim
end

/-! ### calls -/
def toPr (r : R) : M R := fun en => match r with
  | .fr d => .ok (.v d) en
  | r => .ok r en
/-- new things become values; a slot's thing stays that -/
def toP (m : M R) : M R := M.bnd m toPr
def argSl (en : En) : R → Option Sl
  | .v d => some (.v d)
  | .al i => match en[i]? with
    | some (.v d) => some (.v d)
    | some (.mu .lck d) => some (.mu .lck d)
    | some (.mu _ d) => some (.mu .ref d)
    | _ => none
  | .fr _ => none
def argSls (en : En) : List R → Option (List Sl)
  | [] => some []
  | r :: rs => match argSl en r, argSls en rs with
    | some s, some ss => some (s :: ss)
    | _, _ => none
def als : List R → List Nat
  | [] => []
  | .al i :: rs => i :: als rs
  | _ :: rs => als rs
def nodup? : List Nat → Bool
  | [] => true
  | i :: is => !is.contains i && nodup? is
def stepBack (en : En) (i : Nat) (d : D) : En := match en[i]? with
  | some (.mu k _) => en.set i (.mu k d)
  | _ => en
def putBack : En → List R → List Sl → En
  | en, .al i :: rs, .mu _ d :: os => putBack (stepBack en i d) rs os
  | en, _ :: rs, _ :: os => putBack en rs os
  | en, _, _ => en
def callF (F : Fn) (args : M (List R)) : M R := M.bnd args fun rs en => match argSls en rs with
  | some sls => if nodup? (als rs) then (match F sls with
    | .ok r os => .ok r (putBack en rs os)
    | .err x os => .err x (putBack en rs os)
    | .bad => .bad) else .bad
  | none => .bad
theorem nodup_of : ∀ {l : List Nat}, nodup? l = true → l.Nodup
  | [], _ => List.nodup_nil
  | i :: is, h => by
    simp only [nodup?, Bool.and_eq_true, Bool.not_eq_true', List.contains_eq_mem, decide_eq_false_iff_not] at h
    exact List.nodup_cons.mpr ⟨h.1, nodup_of h.2⟩
theorem als_mem : ∀ {rs : List R} {j i : Nat}, rs[j]? = some (.al i) → i ∈ als rs
  | [], _, _, h => by simp at h
  | r :: rs, 0, i, h => by
    simp at h; subst h
    simp [als]
  | r :: rs, j + 1, i, h => by
    have ih := als_mem (rs := rs) (j := j) (i := i) (by simpa using h)
    cases r <;> simp [als, ih]
theorem als_inj : ∀ {rs : List R} {j l i : Nat}, (als rs).Nodup → rs[j]? = some (.al i) → rs[l]? = some (.al i) → j = l
  | [], _, _, _, _, h, _ => by simp at h
  | r :: rs, 0, 0, _, _, _, _ => rfl
  | r :: rs, 0, l + 1, i, nd, h1, h2 => by
    simp at h1; subst h1
    exact absurd (als_mem (by simpa using h2)) (List.nodup_cons.mp nd).1
  | r :: rs, j + 1, 0, i, nd, h1, h2 => by
    simp at h2; subst h2
    exact absurd (als_mem (by simpa using h1)) (List.nodup_cons.mp nd).1
  | r :: rs, j + 1, l + 1, i, nd, h1, h2 => by
    have nd' : (als rs).Nodup := by
      cases r with
      | al x => exact (List.nodup_cons.mp nd).2
      | _ => exact nd
    have := als_inj (j := j) (l := l) nd' (by simpa using h1) (by simpa using h2)
    omega
theorem argSls_get {en : En} : ∀ {rs : List R} {sls : List Sl}, argSls en rs = some sls → sls.length = rs.length ∧ ∀ (j : Nat) (r : R), rs[j]? = some r → ∃ s, argSl en r = some s ∧ sls[j]? = some s
  | [], sls, h => by cases h; exact ⟨rfl, fun j r h => by simp at h⟩
  | r :: rs, sls, h => by
    unfold argSls at h
    split at h
    · next s ss h1 h2 =>
      cases h
      obtain ⟨hl, ih⟩ := argSls_get h2
      refine ⟨by simp [hl], fun j x hx => ?_⟩
      cases j with
      | zero => simp at hx; subst hx; exact ⟨s, h1, rfl⟩
      | succ j => simpa using ih j x (by simpa using hx)
    · cases h
theorem argSl_mu {en : En} {r : R} {k : Mk} {d : D} (h : argSl en r = some (.mu k d)) : ∃ i k0, r = .al i ∧ en[i]? = some (.mu k0 d) ∧ (k = .lck ↔ k0 = .lck) ∧ k ≠ .own := by
  cases r with
  | v d' => cases h
  | fr d' => cases h
  | al i =>
    unfold argSl at h
    simp only at h
    split at h
    · cases h
    · next d0 e => cases h; exact ⟨i, _, rfl, e, Iff.rfl, by decide⟩
    · next k0 d0 nk e =>
      cases h
      refine ⟨i, k0, rfl, e, ⟨fun z => (by cases z), fun z => ?_⟩, by decide⟩
      exact (nk z).elim
    · cases h
theorem argSl_v {en : En} {r : R} {d : D} (h : argSl en r = some (.v d)) : r = .v d ∨ ∃ i, r = .al i ∧ en[i]? = some (.v d) := by
  cases r with
  | v d' => cases h; exact .inl rfl
  | fr d' => cases h
  | al i =>
    unfold argSl at h
    simp only at h
    split at h
    · next d0 e => cases h; exact .inr ⟨i, rfl, e⟩
    · cases h
    · cases h
    · cases h
/-- what stands in a slot behind the call -/
def PB (rs : List R) (os : List Sl) (en en' : En) (i : Nat) : Prop :=
  (en'[i]? = en[i]? ∧ ∀ (k : Mk) (d : D), en[i]? = some (Sl.mu k d) → ∀ j : Nat, rs[j]? = some (R.al i) → ∀ (k' : Mk) (d' : D), os[j]? ≠ some (Sl.mu k' d')) ∨
    ∃ (k : Mk) (d : D) (j : Nat) (k' : Mk) (d' : D), en[i]? = some (Sl.mu k d) ∧ rs[j]? = some (R.al i) ∧ os[j]? = some (Sl.mu k' d') ∧ en'[i]? = some (Sl.mu k d')
theorem PB.skip {r : R} {o : Sl} {rs : List R} {os : List Sl} {en en' : En} {i : Nat} (h : PB rs os en en' i) (n : r = .al i → ∀ k d, o ≠ .mu k d) : PB (r :: rs) (o :: os) en en' i := by
  rcases h with ⟨h1, h2⟩ | ⟨k, d, j, k', d', h1, h2, h3, h4⟩
  · refine .inl ⟨h1, fun k d he j hj k' d' => ?_⟩
    cases j with
    | zero =>
      intro z
      exact n (by simpa using hj) k' d' (by simpa using z)
    | succ j => simpa using h2 k d he j (by simpa using hj) k' d'
  · exact .inr ⟨k, d, j + 1, k', d', h1, by simpa using h2, by simpa using h3, h4⟩
theorem stepBack_other {en : En} {x i : Nat} {d : D} (hi : i ≠ x) : (stepBack en x d)[i]? = en[i]? := by
  unfold stepBack
  split
  · rw [List.getElem?_set_ne fun z => hi z.symm]
  · rfl
theorem putBack_get : ∀ (rs : List R) (os : List Sl) (en : En), (als rs).Nodup → ∀ i : Nat, PB rs os en (putBack en rs os) i
  | [], os, en, _, i => .inl ⟨by simp [putBack], fun k d _ j h => by simp at h⟩
  | r :: rs, [], en, _, i => .inl ⟨by cases r <;> simp [putBack], fun k d _ j h k' d' => by simp⟩
  | .v x :: rs, o :: os, en, nd, i => by
    have e : putBack en (.v x :: rs) (o :: os) = putBack en rs os := by cases o <;> rfl
    rw [e]
    exact (putBack_get rs os en nd i).skip fun z => by cases z
  | .fr x :: rs, o :: os, en, nd, i => by
    have e : putBack en (.fr x :: rs) (o :: os) = putBack en rs os := by cases o <;> rfl
    rw [e]
    exact (putBack_get rs os en nd i).skip fun z => by cases z
  | .al x :: rs, o :: os, en, nd, i => by
    have nd' := List.nodup_cons.mp nd
    by_cases ho : ∃ k' d', o = .mu k' d'
    · obtain ⟨k', d', rfl⟩ := ho
      have e : putBack en (.al x :: rs) (.mu k' d' :: os) = putBack (stepBack en x d') rs os := rfl
      rw [e]
      by_cases hx : i = x
      · subst hx
        have stay : (putBack (stepBack en i d') rs os)[i]? = (stepBack en i d')[i]? := by
          rcases putBack_get rs os (stepBack en i d') nd'.2 i with ⟨h1, _⟩ | ⟨k, d, j, k2, d2, _, h2, _, _⟩
          · exact h1
          · exact absurd (als_mem h2) nd'.1
        cases q : en[i]? with
        | none => exact .inl ⟨by rw [stay]; unfold stepBack; rw [q]; exact q, fun k d h => by rw [q] at h; cases h⟩
        | some sl =>
          cases sl with
          | no => exact .inl ⟨by rw [stay]; unfold stepBack; simp only [q], fun k d h => by rw [q] at h; cases h⟩
          | v d => exact .inl ⟨by rw [stay]; unfold stepBack; simp only [q], fun k d h => by rw [q] at h; cases h⟩
          | mu k d => exact .inr ⟨k, d, 0, k', d', q, rfl, rfl, by rw [stay]; unfold stepBack; rw [q]; exact List.getElem?_set_self (List.getElem?_eq_some_iff.mp q).1⟩
      · have h := putBack_get rs os (stepBack en x d') nd'.2 i
        have h' : PB rs os en (putBack (stepBack en x d') rs os) i := by
          unfold PB at h ⊢
          rw [stepBack_other hx] at h
          exact h
        exact h'.skip fun z => by cases z; exact absurd rfl hx
    · have e : putBack en (.al x :: rs) (o :: os) = putBack en rs os := by
        cases o with
        | mu k' d' => exact absurd ⟨k', d', rfl⟩ ho
        | _ => rfl
      rw [e]
      exact (putBack_get rs os en nd'.2 i).skip fun _ k d z => ho ⟨k, d, z⟩
theorem putBack_len : ∀ (rs : List R) (os : List Sl) (en : En), (putBack en rs os).length = en.length
  | [], os, en => by simp [putBack]
  | r :: rs, [], en => by cases r <;> simp [putBack]
  | .v x :: rs, o :: os, en => by
    have e : putBack en (.v x :: rs) (o :: os) = putBack en rs os := by cases o <;> rfl
    rw [e, putBack_len rs os]
  | .fr x :: rs, o :: os, en => by
    have e : putBack en (.fr x :: rs) (o :: os) = putBack en rs os := by cases o <;> rfl
    rw [e, putBack_len rs os]
  | .al x :: rs, o :: os, en => by
    cases o with
    | mu k d =>
      show (putBack (stepBack en x d) rs os).length = en.length
      rw [putBack_len rs os]
      unfold stepBack
      split
      · exact List.length_set
      · rfl
    | no => exact putBack_len rs os en
    | v d => exact putBack_len rs os en
section
variable {X : Cx} {W : WX} {a e : Expr} {es : List Expr} {pos : Pos} {fa : M R} {fs : M (List R)}
theorem DE.toP (h : DE X W e fa) : DE X W e (toP fa) := by
  obtain ⟨t, p, k⟩ := h.ex
  refine DE.mk' (pe_fz p) fun σ H en Q l E post => ?_
  refine k σ H en _ l E (PostG.bindAt (Stp.refl E) post fun r en1 v H1 _ l1 s1 r1 post1 => ?_)
  cases r with
  | v d => exact .inl fun l' => post1 v H1 l' s1 r1
  | al i => exact .inl fun l' => post1 v H1 l' s1 r1
  | fr d =>
    obtain ⟨a, rfl, m, n, w⟩ := r1
    obtain ⟨u, hu, mu⟩ := m.ne
    exact .inr ⟨a, u, rfl, hu, mu, fun o l' => post1 _ _ l' (s1.off hu mu n w) (Dr.froze m hu)⟩
theorem RL.get {σ : L2.St} {H0 H : Hp} {en0 en : En} : ∀ {vs : List V} {rs : List R}, RL X σ H0 en0 H en vs rs → vs.length = rs.length ∧ ∀ (j : Nat) (v : V), vs[j]? = some v → ∃ r, rs[j]? = some r ∧ RR X.K X.mg σ H0 en0 σ H en v r
  | _, _, .nil => ⟨rfl, fun j v h => by simp at h⟩
  | _, _, .cons r t => by
    obtain ⟨hl, ih⟩ := RL.get t
    refine ⟨by simp [hl], fun j v h => ?_⟩
    cases j with
    | zero => simp at h; subst h; exact ⟨_, rfl, r⟩
    | succ j => simpa using ih j v (by simpa using h)
/-- what is handed to a def -/
theorem EnR.args {σ : L2.St} {H0 H : Hp} {en0 en : En} {vs : List V} {rs : List R} {sls : List Sl} (E : EnR X.K X.mg σ H en) (r : RL X σ H0 en0 H en vs rs) (hs : argSls en rs = some sls) (nd : (als rs).Nodup) :
    EnR X.K X.mg (vs.map some) H sls ∧ noOwn sls ∧ ∀ (j : Nat) (k : Mk) (d : D), sls[j]? = some (.mu k d) → ∃ i k0 a, rs[j]? = some (.al i) ∧ en[i]? = some (.mu k0 d) ∧ (k = .lck ↔ k0 = .lck) ∧ vs[j]? = some (.ref a) ∧ σ[i]? = some (some (.ref a)) := by
  obtain ⟨hl, hr⟩ := RL.get r
  obtain ⟨hl2, hs2⟩ := argSls_get hs
  have at_ : ∀ (j : Nat) (s : Sl), sls[j]? = some s → ∃ v r, vs[j]? = some v ∧ rs[j]? = some r ∧ argSl en r = some s ∧ RR X.K X.mg σ H0 en0 σ H en v r := fun j s h => by
    have hj : j < vs.length := by have := (List.getElem?_eq_some_iff.mp h).1; omega
    obtain ⟨r, hr1, hr2⟩ := hr j vs[j] (List.getElem?_eq_getElem hj)
    obtain ⟨s', h1, h2⟩ := hs2 j r hr1
    rw [h] at h2; cases h2
    exact ⟨vs[j], r, List.getElem?_eq_getElem hj, hr1, h1, hr2⟩
  have mu_ : ∀ (j : Nat) (k : Mk) (d : D), sls[j]? = some (.mu k d) → ∃ i k0 a, rs[j]? = some (.al i) ∧ en[i]? = some (.mu k0 d) ∧ (k = .lck ↔ k0 = .lck) ∧ vs[j]? = some (.ref a) ∧ σ[i]? = some (some (.ref a)) := fun j k d h => by
    obtain ⟨v, r, hv, hr, ha, rr⟩ := at_ j _ h
    obtain ⟨i, k0, rfl, e, hk, _⟩ := argSl_mu ha
    obtain ⟨a, q, m⟩ := E.mu i k0 d e
    have rr : σ[i]? = some (some v) := rr
    rw [q] at rr; cases rr
    exact ⟨i, k0, a, hr, e, hk, hv, q⟩
  refine ⟨⟨by rw [List.length_map]; omega, fun j d h => ?_, fun j k d h => ?_, fun j l a k d k' d' h1 h2 q1 q2 => ?_⟩, fun j k d h => ?_, mu_⟩
  · obtain ⟨v, r, hv, hr, ha, rr⟩ := at_ j _ h
    refine ⟨v, by rw [List.getElem?_map, hv]; rfl, ?_⟩
    rcases argSl_v ha with rfl | ⟨i, rfl, e⟩
    · exact rr
    · obtain ⟨v', q, r⟩ := E.val i d e
      have rr : σ[i]? = some (some v) := rr
      rw [q] at rr; cases rr
      exact r
  · obtain ⟨i, k0, a, _, e, _, hv, q⟩ := mu_ j k d h
    obtain ⟨a', q', m⟩ := E.mu i k0 d e
    rw [q] at q'; cases q'
    exact ⟨a, by rw [List.getElem?_map, hv]; rfl, m⟩
  · obtain ⟨i, k0, b, hr1, e, _, hv, q⟩ := mu_ j k d h1
    obtain ⟨i', k0', b', hr2, e', _, hv', q'⟩ := mu_ l k' d' h2
    rw [List.getElem?_map, hv] at q1
    rw [List.getElem?_map, hv'] at q2
    have q1 : b = a := by cases q1; rfl
    have q2 : b' = a := by cases q2; rfl
    subst q1
    subst q2
    have hi := E.dist i i' _ k0 d k0' d' e e' q q'
    subst hi
    exact als_inj nd hr1 hr2
  · obtain ⟨v, r, hv, hr, ha, rr⟩ := at_ j _ h
    obtain ⟨i, k0, rfl, e, hk, no⟩ := argSl_mu ha
    exact no
/-- behind the call -/
theorem Stp.back {σ : L2.St} {H0 H H' : Hp} {en0 en : En} {vs : List V} {rs : List R} {sls os : List Sl} (E : EnR X.K X.mg σ H en) (r : RL X σ H0 en0 H en vs rs) (hs : argSls en rs = some sls) (nd : (als rs).Nodup)
    (s : Stp X.K X.mg (vs.map some) H sls (vs.map some) H' os) : Stp X.K X.mg σ H en σ H' (putBack en rs os) ∧ ∀ v x, RR X.K X.mg (vs.map some) H sls (vs.map some) H' os v x → (∀ i, x ≠ .al i) → RR X.K X.mg σ H en σ H' (putBack en rs os) v x := by
  obtain ⟨Es, no, mu_⟩ := E.args r hs nd
  have mo := s.mo Es
  have ma1 : ∀ a, MA (vs.map some) sls a → MA σ en a := fun a ⟨j, k, d, h, hk, q⟩ => by
    obtain ⟨i, k0, b, _, e, hk2, hv, q2⟩ := mu_ j k d h
    rw [List.getElem?_map, hv] at q; cases q
    exact ⟨i, k0, d, e, fun z => hk (hk2.mpr z), q2⟩
  -- each slot: as it was, or with what the def left
  have slot : ∀ (i : Nat) (x : Sl), (putBack en rs os)[i]? = some x → (en[i]? = some x ∧ ∀ k d, x = .mu k d → ∀ a, σ[i]? = some (some (.ref a)) → H' a = H a) ∨
      ∃ (k : Mk) (d : D) (j : Nat) (k' : Mk) (d' : D) (a : Addr), x = .mu k d' ∧ en[i]? = some (Sl.mu k d) ∧ rs[j]? = some (R.al i) ∧ os[j]? = some (Sl.mu k' d') ∧ vs[j]? = some (V.ref a) ∧ σ[i]? = some (some (V.ref a)) ∧ (k = .lck → d' = d) := fun i x h => by
    rcases putBack_get rs os en nd i with ⟨h1, h2⟩ | ⟨k, d, j, k', d', h1, h2, h3, h4⟩
    · rw [h] at h1
      refine .inl ⟨h1.symm, fun k d e a q => ?_⟩
      subst e
      obtain ⟨a', q', m⟩ := E.mu i k d h1.symm
      rw [q] at q'; cases q'
      obtain ⟨u, hu, _⟩ := m.ne
      rw [hu]
      refine s.fr a u hu fun z => ?_
      obtain ⟨j, k1, d1, hj, hk, qj⟩ := z
      obtain ⟨i2, k2, b, hr2, e2, _, hv, q2⟩ := mu_ j k1 d1 hj
      rw [List.getElem?_map, hv] at qj
      have qj : b = a := by cases qj; rfl
      subst qj
      have hi := E.dist i i2 _ k d k2 d1 h1.symm e2 q q2
      subst hi
      obtain ⟨_, d2, ho, _⟩ := s.kp j k1 d1 hj (no j k1 d1 hj)
      exact h2 k d h1.symm j hr2 k1 d2 ho
    · rw [h] at h4; cases h4
      obtain ⟨hl, hr⟩ := RL.get r
      have hj : j < vs.length := by rw [hl]; exact (List.getElem?_eq_some_iff.mp h2).1
      have lsl : sls.length = vs.length := by have := Es.len; simpa using this.symm
      -- the argument was lent
      have hsj : ∃ k1 d1, sls[j]? = some (.mu k1 d1) := by
        obtain ⟨s', a1, a2⟩ := (argSls_get hs).2 j _ h2
        unfold argSl at a1
        simp only [h1] at a1
        cases k with
        | lck => cases a1; exact ⟨_, _, a2⟩
        | own => cases a1; exact ⟨_, _, a2⟩
        | ref => cases a1; exact ⟨_, _, a2⟩
      obtain ⟨k1, d1, hsj⟩ := hsj
      obtain ⟨i2, k2, b, hr2, e2, hk2, hv, q2⟩ := mu_ j k1 d1 hsj
      rw [h2] at hr2; cases hr2
      obtain ⟨_, d2, ho, hl2⟩ := s.kp j k1 d1 hsj (no j k1 d1 hsj)
      rw [h3] at ho; cases ho
      rw [h1] at e2; cases e2
      exact .inr ⟨k, d, j, k', d', b, rfl, h1, h2, h3, hv, q2, fun z => hl2 (hk2.mpr z)⟩
  have er : EnR X.K X.mg σ H' (putBack en rs os) := by
    refine ⟨by rw [putBack_len]; exact E.len, fun i d h => ?_, fun i k d h => ?_, fun i l a k d k' d' h1 h2 q1 q2 => ?_⟩
    · rcases slot i _ h with ⟨h1, _⟩ | ⟨k, d0, j, k', d', a, e, _⟩
      · obtain ⟨v, q, r⟩ := E.val i d h1
        exact ⟨v, q, r.mo mo⟩
      · cases e
    · rcases slot i _ h with ⟨h1, h2⟩ | ⟨k1, d0, j, k', d', a, e, h1, h2, h3, h4, h5, _⟩
      · obtain ⟨a, q, m⟩ := E.mu i k d h1
        exact ⟨a, q, m.keep mo (h2 k d rfl a q)⟩
      · cases e
        obtain ⟨b, q, m⟩ := s.er.mu j k' _ h3
        rw [List.getElem?_map, h4] at q; cases q
        exact ⟨_, h5, m⟩
    · have e1 : ∃ k0 d0, en[i]? = some (.mu k0 d0) := by
        rcases slot i _ h1 with ⟨h, _⟩ | ⟨k1, d0, _, _, _, _, _, h, _⟩
        · exact ⟨_, _, h⟩
        · exact ⟨_, _, h⟩
      have e2 : ∃ k0 d0, en[l]? = some (.mu k0 d0) := by
        rcases slot l _ h2 with ⟨h, _⟩ | ⟨k1, d0, _, _, _, _, _, h, _⟩
        · exact ⟨_, _, h⟩
        · exact ⟨_, _, h⟩
      obtain ⟨k1, d1, e1⟩ := e1
      obtain ⟨k2, d2, e2⟩ := e2
      exact E.dist i l a k1 d1 k2 d2 e1 e2 q1 q2
  have kind : ∀ (i : Nat) (k : Mk) (d : D), (putBack en rs os)[i]? = some (.mu k d) → ∃ d0, en[i]? = some (.mu k d0) := fun i k d h => by
    rcases slot i _ h with ⟨h, _⟩ | ⟨k1, d0, _, _, _, _, e, h, _⟩
    · exact ⟨_, h⟩
    · cases e; exact ⟨_, h⟩
  have am1 : ∀ a, AM σ (putBack en rs os) a → AM σ en a := fun a ⟨i, k, d, h, q⟩ => by
    obtain ⟨d0, e⟩ := kind i k d h
    exact ⟨i, k, d0, e, q⟩
  refine ⟨⟨fun b o h n => s.fr b o h fun z => n (ma1 b z), er, fun a ⟨i, k, d, h, hk, q⟩ => ?_, fun a z => .inl (am1 a z), fun i k d h hk => ⟨rfl, ?_⟩, putBack_len rs os en⟩, fun v x rr nal => ?_⟩
  · obtain ⟨d0, e⟩ := kind i k d h
    exact .inl ⟨i, k, d0, e, hk, q⟩
  · rcases putBack_get rs os en nd i with ⟨h1, h2⟩ | ⟨k1, d1, j, k', d', h1, h2, h3, h4⟩
    · exact ⟨d, by rw [h1]; exact h, fun _ => rfl⟩
    · rw [h] at h1; cases h1
      rcases slot i _ h4 with ⟨h5, _⟩ | ⟨k2, d2, j2, k3, d3, a2, e2, e3, _, _, _, _, hl⟩
      · rw [h] at h5; cases h5
        exact ⟨_, h4, fun _ => rfl⟩
      · cases e2
        rw [h] at e3; cases e3
        exact ⟨_, h4, hl⟩
  · cases x with
    | v d => exact rr
    | al i => exact absurd rfl (nal i)
    | fr d =>
      obtain ⟨a, e, m, n, w⟩ := rr
      refine ⟨a, e, m, fun z => ?_, w.imp (ma1 a) id⟩
      rcases w with w | w
      · obtain ⟨j, k, d1, h, hk, q⟩ := w
        obtain ⟨_, d2, ho, _⟩ := s.kp j k d1 h (no j k d1 h)
        exact n ⟨j, k, d2, ho, q⟩
      · obtain ⟨u, hu, _⟩ := E.there (am1 a z)
        rw [w] at hu; cases hu
theorem fn_al {F : Fn} {n : Nat} {body : S} (h : F = fnD n body) : ∀ sls i os, F sls ≠ .ok (.al i) os := by
  subst h
  intro sls i os h
  unfold fnD at h
  split at h
  · cases h
  · next r en' nal e => injection h with h1 _; exact nal i h1
  · injection h with h1 _; cases h1
  · cases h
  · cases h
  · cases h
/-- f(e, ..) of a def -/
theorem de_call {k n : Nat} {f : Addr} {fd : FuncData} {ps : List Str} {x : Str} {p : Pos} {F : Fn} (F0 : FnOk X.prog X.w X.K X.mg X.base (L2.CX X.prog X.w) k f fd ps (spD X.K X.mg n F)) (nal : ∀ sls i os, F sls ≠ .ok (.al i) os) (hr : Room k X.A) (hg : Gl X x) (hm : X.mg x = some (.ref f))
    (hk : PySem.W.keepIn X.K (.ref f) = true) (hb : Binds X.K fd ps []) (tk : Takes X W) (ha : DA X W (e :: es) fs) (hl : (e :: es).length = n := by rfl) (hdb : (x == ("__debug__" : Str)) = false := by decide)
    (he : starEach (e :: es) X.env = (false, eval e X.env) :: starEach es X.env := by rfl) (hpl : (backTo pos (starEach es X.env)).any (·.1) = false := by rfl) (hlen : ∀ en rs en', fs en = .ok rs en' → rs.length = n) : DE X W (.Call (.Name x p) (e :: es) [] pos) (callF F fs) := by
  obtain ⟨t, pa, ka⟩ := ha.ex
  refine DE.mk' (pe_callS F0 hr hg hm hk hb (fun σ => passAt tk σ) pa hdb he hpl) fun σ H en Q l E post => ?_
  refine ka σ H en _ l E (PostG.bindAt (Stp.refl E) post fun rs en1 vs H1 hfs l1 s1 rr post1 => ?_)
  split at post1
  · next sls hs =>
    split at post1
    · next hnd =>
      have nd := nodup_of hnd
      obtain ⟨Es, no, _⟩ := s1.er.args rr hs nd
      refine ⟨by rw [(RL.get rr).1]; exact hlen _ _ _ hfs, sls, Es, no, ?_⟩
      split at post1
      · next r os hF =>
        rw [hF]
        intro v H' l' s' rr'
        obtain ⟨sb, rb⟩ := Stp.back s1.er rr hs nd s'
        exact fun l'' => post1 v H' l'' (s1.trans sb) (RR.back s1 (rb v r rr' fun i z => nal sls i os (by rw [hF, z])))
      · next x os hF =>
        rw [hF]
        intro cls d H' s' xx
        exact post1 cls d H' (s1.trans (Stp.back s1.er rr hs nd s').1) xx
      · next hF => exact post1.elim
    · exact post1.elim
  · exact post1.elim
end
end Fw
set_option Elab.async false
set_option linter.all false
set_option maxRecDepth 100000
set_option maxHeartbeats 4000000
namespace Fw
open PySem PySem.Spec PyProof.Rows L2

/-! ### one reading for all contexts -/
section
variable (K : PySem.W.Frag) (mg : Str → Option Value) (W : WX)
def canV (f : M D) : TE := fun σ H Q => Lim K H ∧ ∃ en, EnR K mg σ H en ∧ PostG K mg W σ H en (fun H' _ v d => Dr K mg H' v d) (f en) Q
def canT (f : M Bool) : TT := fun σ H Q => Lim K H ∧ ∃ en, EnR K mg σ H en ∧ PostG K mg W σ H en (fun _ _ b c => b = c) (f en) Q
end
/-- where only these slots change -/
def Chg (ts : List Nat) (σ σ' : L2.St) : Prop := σ'.length = σ.length ∧ ∀ i, i ∉ ts → σ'[i]? = σ[i]?
structure DGc (X : Cx) (tg : Expr) (ts : List Nat) (g : TgF) : Prop where
  ex : ∃ t : TG, PG X tg t ∧ ∀ v d σ H en Q, Lim X.K H → EnR X.K X.mg σ H en → Dr X.K X.mg H v d → (match g d en with
    | some en' => ∀ σ', Stp X.K X.mg σ H en σ' H en' → Chg ts σ σ' → Q σ' H
    | none => False) → t v σ H Q
structure DGcs (X : Cx) (tgs : List Expr) (ts : List Nat) (g : List D → En → Option En) : Prop where
  ex : ∃ t : TGs, PGs X tgs t ∧ ∀ vs ds σ H en Q, Lim X.K H → EnR X.K X.mg σ H en → DrL X.K X.mg H vs ds → (match g ds en with
    | some en' => ∀ σ', Stp X.K X.mg σ H en σ' H en' → Chg ts σ σ' → Q σ' H
    | none => False) → t vs σ H Q
def canG (K : PySem.W.Frag) (mg : Str → Option Value) (ts : List Nat) (g : TgF) : TG := fun v σ H Q => Lim K H ∧ ∃ d en, EnR K mg σ H en ∧ Dr K mg H v d ∧ match g d en with
  | some en' => ∀ σ', Stp K mg σ H en σ' H en' → Chg ts σ σ' → Q σ' H
  | none => False
section
variable {X : Cx} {W : WX} {e tg : Expr} {tgs : List Expr} {g : TgF} {gs : List D → En → Option En} {pos : Pos} {ts us : List Nat}
theorem PE.weak {t t' : TE} (h : PE X e t) (k : ∀ σ H Q, t' σ H Q → t σ H Q) : PE X e t' := ⟨fun pins s σ H Q I q => h.run pins s σ H Q I (k σ H Q q)⟩
theorem PG.weak {t t' : TG} (h : PG X tg t) (k : ∀ v σ H Q, t' v σ H Q → t v σ H Q) : PG X tg t' := ⟨fun pins s σ H v u Q I r q => h.run pins s σ H v u Q I r (k v σ H Q q)⟩
theorem DV.can {f : M D} (h : DV X W e f) : PE X e (canV X.K X.mg W f) := by
  obtain ⟨t, p, k⟩ := h.ex
  exact PE.weak p fun σ H Q ⟨l, en, E, post⟩ => k σ H en Q l E post
theorem DGc.can (h : DGc X tg ts g) : PG X tg (canG X.K X.mg ts g) := by
  obtain ⟨t, p, k⟩ := h.ex
  exact PG.weak p fun v σ H Q ⟨l, d, en, E, r, post⟩ => k v d σ H en Q l E r post
/-- a clause's tests -/
structure DTs (X : Cx) (W : WX) (ifs : List Expr) (f : M Bool) : Prop where
  ex : ∃ t : TT, PTs X ifs t ∧ ∀ σ H en Q, Lim X.K H → EnR X.K X.mg σ H en → PostG X.K X.mg W σ H en (fun _ _ b c => b = c) (f en) Q → t σ H Q
def yesM : M Bool := fun en => .ok true en
theorem dts_nil : DTs X W [] yesM := ⟨tYes, pts_nil, fun σ H en Q l E post => post true H l (Stp.refl E) rfl⟩
theorem dts_one {f : M Bool} (h : DT X W e f) : DTs X W [e] f := by
  obtain ⟨t, p, k⟩ := h.ex
  exact ⟨t, pts_one p, k⟩
theorem DTs.can {ifs : List Expr} {f : M Bool} (h : DTs X W ifs f) : PTs X ifs (canT X.K X.mg W f) := by
  obtain ⟨t, p, k⟩ := h.ex
  exact ⟨fun pins s σ H Q I ⟨l, en, E, post⟩ => p.run pins s σ H Q I (k σ H en Q l E post)⟩
theorem dgc_name (i : Nat) {x : Str} (hN : X.N.Nodup) (hi : X.N[i]? = some x := by rfl) (hx : Loc X.env.scope x := by first | exact Or.inl rfl | exact Or.inr rfl)
    (hf : X.fn x = true ∨ X.env.scope.names.lookup x = some .local := by first | exact .inl rfl | exact .inr rfl) : DGc X (.Name x pos) [i] (setD i) := by
  refine ⟨_, pg_name hN hi hx hf, fun v d σ H en Q l E r post => ?_⟩
  by_cases hfree : free? en i = true
  · have e : setD i d en = some (en.set i (.v d)) := by unfold setD; rw [if_pos hfree]
    rw [e] at post
    exact post _ ((Stp.refl E).setV hfree r) ⟨List.length_set, fun j hj => List.getElem?_set_ne fun z => hj (by simp [z])⟩
  · have e : setD i d en = none := by unfold setD; rw [if_neg hfree]
    rw [e] at post
    exact post.elim
theorem dgcs_nil : DGcs X [] [] nilG := by
  refine ⟨_, pgs_nil, fun vs ds σ H en Q l E r post => ?_⟩
  cases r with
  | nil => exact ⟨rfl, post σ (Stp.refl E) ⟨rfl, fun _ _ => rfl⟩⟩
  | cons _ _ => exact post.elim
theorem Chg.trans {σ σ1 σ2 : L2.St} (a : Chg ts σ σ1) (b : Chg us σ1 σ2) : Chg (ts ++ us) σ σ2 := ⟨b.1.trans a.1, fun i hi => by
  simp only [List.mem_append, not_or] at hi
  exact (b.2 i hi.2).trans (a.2 i hi.1)⟩
theorem dgcs_cons (h1 : DGc X tg ts g) (h2 : DGcs X tgs us gs) (hs : (assignEach (tg :: tgs) X.env).map (·.2) = assign tg X.env :: (assignEach tgs X.env).map (·.2) := by rfl) : DGcs X (tg :: tgs) (ts ++ us) (consG g gs) := by
  obtain ⟨t, p, k⟩ := h1.ex
  obtain ⟨t2, ps, ks⟩ := h2.ex
  refine ⟨_, pgs_cons p ps hs, fun vs ds σ H en Q l E r post => ?_⟩
  cases r with
  | nil => exact post.elim
  | @cons v vs d ds r t =>
    refine ⟨_, _, rfl, k _ _ σ H en _ l E r ?_⟩
    have ec : consG g gs (d :: ds) en = (g d en).bind (gs ds) := rfl
    rw [ec] at post
    cases q : g d en with
    | none => rw [q] at post; exact post.elim
    | some en1 =>
      rw [q] at post
      intro σ1 s1 c1
      refine ks _ _ σ1 H en1 Q l s1.er t ?_
      cases q2 : gs ds en1 with
      | none => simp only [Option.bind, q2] at post
      | some en2 =>
        simp only [Option.bind, q2] at post
        exact fun σ2 s2 c2 => post σ2 (s1.trans s2) (c1.trans c2)
theorem dgc_tup {k n : Nat} (hc : X.calm = true) (h : DGcs X tgs ts gs) (hn : (assignEach tgs X.env).length = n := by rfl) (hst : (assignEach tgs X.env).findIdx? (·.1) = none := by rfl) : DGc X (.Tuple tgs k pos) ts (tupG n gs) := by
  obtain ⟨t2, ps, ks⟩ := h.ex
  refine ⟨_, pg_tup hc ps hn hst, fun v d σ H en Q l E r post => ?_⟩
  cases d with
  | tup ds =>
    by_cases hl : ds.length = n
    · have e : tupG n gs (.tup ds) en = gs ds en := by unfold tupG; simp only; rw [if_pos hl]
      rw [e] at post
      cases r with
      | tup q t => exact ⟨_, _, rfl, q, by rw [t.length]; exact hl, ks _ _ σ H en Q l E t post⟩
    · have e : tupG n gs (.tup ds) en = none := by unfold tupG; simp only; rw [if_neg hl]
      rw [e] at post
      exact post.elim
  | _ => exact post.elim
end

/-! ### list comprehensions -/
def wipeE (en : En) : List Nat → En
  | [] => en
  | v :: vs => (wipeE en vs).set v .no
/-- the slots vs as they were ahead -/
def rest (en0 en : En) (vs : List Nat) : En := (List.range en.length).map fun i => if vs.contains i then en0.getD i .no else en.getD i .no
def lcL (vs : List Nat) (g : TgF) (ft : M Bool) (fe : M D) : List D → M (List D)
  | [] => fun en => .ok [] en
  | d :: ds => M.bnd (tgM (g d)) fun _ => M.bnd ft fun k => if k then M.bnd fe fun x => M.bnd (fun en => lcL vs g ft fe ds (wipeE en vs)) fun r en => .ok (x :: r) en
      else fun en => lcL vs g ft fe ds (wipeE en vs)
def lcM (src : M Src) (vs : List Nat) (g : TgF) (ft : M Bool) (fe : M D) : M R := M.bnd src fun p => withSrc p fun ds en => match lcL vs g ft fe ds (wipeE en vs) with
  | .ok r en' => .ok (.fr (.lst r)) (rest en en' vs)
  | _ => .bad
section
variable {K : PySem.W.Frag} {mg : Str → Option Value} {σ σ1 σ2 : L2.St} {H H1 H2 : Hp} {en en1 en2 : En}
theorem wipeE_len (en : En) : ∀ vs : List Nat, (wipeE en vs).length = en.length
  | [] => rfl
  | v :: vs => by unfold wipeE; rw [List.length_set, wipeE_len en vs]
theorem wipeE_get (en : En) : ∀ (vs : List Nat) (i : Nat), (wipeE en vs)[i]? = if i ∈ vs then (if i < en.length then some .no else none) else en[i]?
  | [], i => by simp [wipeE]
  | v :: vs, i => by
    unfold wipeE
    have ih := wipeE_get en vs i
    by_cases hi : v = i
    · subst hi
      rw [if_pos (by simp)]
      by_cases hl : v < en.length
      · rw [List.getElem?_set_self (by rw [wipeE_len]; exact hl), if_pos hl]
      · rw [List.getElem?_eq_none (by rw [List.length_set, wipeE_len]; omega), if_neg hl]
    · rw [List.getElem?_set_ne hi, ih]
      have : i ∈ v :: vs ↔ i ∈ vs := by simp only [List.mem_cons]; exact ⟨fun z => z.elim (fun q => absurd q.symm hi) id, .inr⟩
      by_cases hm : i ∈ vs
      · rw [if_pos hm, if_pos (this.mpr hm)]
      · rw [if_neg hm, if_neg fun z => hm (this.mp z)]
theorem wipe_get (σ : L2.St) : ∀ (vs : List Nat) (i : Nat), (wipe σ vs)[i]? = if i ∈ vs then (if i < σ.length then some none else none) else σ[i]?
  | [], i => by simp [wipe]
  | v :: vs, i => by
    unfold wipe
    have ih := wipe_get σ vs i
    by_cases hi : v = i
    · subst hi
      rw [if_pos (by simp)]
      by_cases hl : v < σ.length
      · rw [List.getElem?_set_self (by rw [wipe_length]; exact hl), if_pos hl]
      · rw [List.getElem?_eq_none (by rw [List.length_set, wipe_length]; omega), if_neg hl]
    · rw [List.getElem?_set_ne hi, ih]
      have : i ∈ v :: vs ↔ i ∈ vs := by simp only [List.mem_cons]; exact ⟨fun z => z.elim (fun q => absurd q.symm hi) id, .inr⟩
      by_cases hm : i ∈ vs
      · rw [if_pos hm, if_pos (this.mpr hm)]
      · rw [if_neg hm, if_neg fun z => hm (this.mp z)]
theorem wiped {vs : List Nat} {i : Nat} {x : Sl} (h : (wipeE en vs)[i]? = some x) (hx : x ≠ .no) : i ∉ vs ∧ en[i]? = some x := by
  rw [wipeE_get] at h
  split at h
  · split at h
    · cases h; exact absurd rfl hx
    · cases h
  · next hm => exact ⟨hm, h⟩
theorem wipe_out {vs : List Nat} {i : Nat} (h : i ∉ vs) : (wipe σ vs)[i]? = σ[i]? := by rw [wipe_get, if_neg h]
/-- the slots of the block's own names forgotten -/
theorem Stp.wipe (s : Stp K mg σ H en σ1 H1 en1) (vs : List Nat) (hf : ∀ i ∈ vs, ∀ k d, en[i]? = some (.mu k d) → k = .own) : Stp K mg σ H en (L2.wipe σ1 vs) H1 (wipeE en1 vs) := by
  have E := s.er
  refine ⟨s.fr, ⟨by rw [wipe_length, wipeE_len]; exact E.len, fun i d h => ?_, fun i k d h => ?_, fun i j a k d k' d' h1 h2 q1 q2 => ?_⟩, fun a ⟨i, k, d, h, hk, q⟩ => ?_, fun a ⟨i, k, d, h, q⟩ => ?_, fun i k d h hk => ?_, by rw [wipeE_len]; exact s.ln⟩
  · obtain ⟨hm, h'⟩ := wiped h (by simp)
    rw [wipe_out hm]; exact E.val i d h'
  · obtain ⟨hm, h'⟩ := wiped h (by simp)
    rw [wipe_out hm]; exact E.mu i k d h'
  · obtain ⟨hm, h1'⟩ := wiped h1 (by simp)
    obtain ⟨hm2, h2'⟩ := wiped h2 (by simp)
    rw [wipe_out hm] at q1
    rw [wipe_out hm2] at q2
    exact E.dist i j a k d k' d' h1' h2' q1 q2
  · obtain ⟨hm, h'⟩ := wiped h (by simp)
    rw [wipe_out hm] at q
    exact s.ma a ⟨i, k, d, h', hk, q⟩
  · obtain ⟨hm, h'⟩ := wiped h (by simp)
    rw [wipe_out hm] at q
    exact s.am a ⟨i, k, d, h', q⟩
  · have hm : i ∉ vs := fun z => hk (hf i z k d h)
    obtain ⟨q, d', h', l⟩ := s.kp i k d h hk
    exact ⟨by rw [wipe_out hm]; exact q, d', by rw [wipeE_get, if_neg hm]; exact h', l⟩
theorem EnR.wipe (E : EnR K mg σ H en) (vs : List Nat) : EnR K mg (L2.wipe σ vs) H (wipeE en vs) := by
  refine ⟨by rw [wipe_length, wipeE_len]; exact E.len, fun i d h => ?_, fun i k d h => ?_, fun i j a k d k' d' h1 h2 q1 q2 => ?_⟩
  · obtain ⟨hm, h'⟩ := wiped h (by simp)
    rw [wipe_out hm]; exact E.val i d h'
  · obtain ⟨hm, h'⟩ := wiped h (by simp)
    rw [wipe_out hm]; exact E.mu i k d h'
  · obtain ⟨hm, h1'⟩ := wiped h1 (by simp)
    obtain ⟨hm2, h2'⟩ := wiped h2 (by simp)
    rw [wipe_out hm] at q1
    rw [wipe_out hm2] at q2
    exact E.dist i j a k d k' d' h1' h2' q1 q2
theorem rest_get {vs : List Nat} (hl : en1.length = en.length) (i : Nat) : (rest en en1 vs)[i]? = if i ∈ vs then en[i]? else en1[i]? := by
  unfold rest
  rw [List.getElem?_map]
  by_cases hi : i < en1.length
  · rw [List.getElem?_range hi]
    simp only [Option.map_some, List.contains_eq_mem, decide_eq_true_eq]
    split
    · rw [List.getElem?_eq_getElem (by omega), List.getD_eq_getElem?_getD, List.getElem?_eq_getElem (by omega)]; rfl
    · rw [List.getElem?_eq_getElem hi, List.getD_eq_getElem?_getD, List.getElem?_eq_getElem hi]; rfl
  · rw [List.getElem?_eq_none (by simp; omega), List.getElem?_eq_none (by omega), List.getElem?_eq_none (by omega)]
    simp
theorem rest_len {vs : List Nat} : (rest en en1 vs).length = en1.length := by unfold rest; rw [List.length_map, List.length_range]
/-- behind the block -/
theorem Stp.unwipe {vs : List Nat} (E : EnR K mg σ H en) (s : Stp K mg (L2.wipe σ vs) H (wipeE en vs) (L2.wipe σ vs) H1 en1) : Stp K mg σ H en σ H1 (rest en en1 vs) ∧ ∀ a, AM σ (rest en en1 vs) a → AM σ en a ∨ AM (L2.wipe σ vs) en1 a := by
  have hl : en1.length = en.length := by rw [s.ln, wipeE_len]
  have Ew := E.wipe vs
  have mo := s.mo Ew
  have maw : ∀ a, MA (L2.wipe σ vs) (wipeE en vs) a → MA σ en a ∧ ∃ i k d, i ∉ vs ∧ en[i]? = some (.mu k d) ∧ σ[i]? = some (some (.ref a)) := fun a ⟨i, k, d, h, hk, q⟩ => by
    obtain ⟨hm, h'⟩ := wiped h (by simp)
    rw [wipe_out hm] at q
    exact ⟨⟨i, k, d, h', hk, q⟩, i, k, d, hm, h', q⟩
  have amw : ∀ a, AM (L2.wipe σ vs) (wipeE en vs) a → AM σ en a ∧ ∃ i k d, i ∉ vs ∧ en[i]? = some (.mu k d) ∧ σ[i]? = some (some (.ref a)) := fun a ⟨i, k, d, h, q⟩ => by
    obtain ⟨hm, h'⟩ := wiped h (by simp)
    rw [wipe_out hm] at q
    exact ⟨⟨i, k, d, h', q⟩, i, k, d, hm, h', q⟩
  -- a thing of the slots vs stands still
  have stay : ∀ (i : Nat) (k : Mk) (d : D) (a : Addr), i ∈ vs → en[i]? = some (.mu k d) → σ[i]? = some (some (.ref a)) → H1 a = H a := fun i k d a hm h q => by
    obtain ⟨a', q', m⟩ := E.mu i k d h
    rw [q] at q'; cases q'
    obtain ⟨u, hu, _⟩ := m.ne
    rw [hu]
    refine s.fr a u hu fun z => ?_
    obtain ⟨_, j, k2, d2, hj, h2, q2⟩ := maw a z
    have := E.dist i j a k d k2 d2 h h2 q q2
    subst this
    exact hj hm
  have er : EnR K mg σ H1 (rest en en1 vs) := by
    refine ⟨by rw [rest_len, hl]; exact E.len, fun i d h => ?_, fun i k d h => ?_, fun i j a k d k' d' h1 h2 q1 q2 => ?_⟩
    · rw [rest_get hl] at h
      split at h
      · obtain ⟨v, q, r⟩ := E.val i d h
        exact ⟨v, q, r.mo mo⟩
      · next hm =>
        obtain ⟨v, q, r⟩ := s.er.val i d h
        rw [wipe_out hm] at q
        exact ⟨v, q, r⟩
    · rw [rest_get hl] at h
      split at h
      · next hm =>
        obtain ⟨a, q, m⟩ := E.mu i k d h
        exact ⟨a, q, m.keep mo (stay i k d a hm h q)⟩
      · next hm =>
        obtain ⟨a, q, m⟩ := s.er.mu i k d h
        rw [wipe_out hm] at q
        exact ⟨a, q, m⟩
    · rw [rest_get hl] at h1 h2
      have cross : ∀ (i j : Nat) (k : Mk) (d : D) (k' : Mk) (d' : D), i ∈ vs → j ∉ vs → en[i]? = some (.mu k d) → en1[j]? = some (.mu k' d') → σ[i]? = some (some (.ref a)) → σ[j]? = some (some (.ref a)) → i = j := fun i j k d k' d' hi hj h1 h2 q1 q2 => by
        have ha : AM (L2.wipe σ vs) en1 a := ⟨j, k', d', h2, by rw [wipe_out hj]; exact q2⟩
        rcases s.am a ha with z | z
        · obtain ⟨_, j2, k2, d2, hj2, h3, q3⟩ := amw a z
          have := E.dist i j2 a k d k2 d2 h1 h3 q1 q3
          subst this
          exact absurd hi hj2
        · obtain ⟨u, hu, _⟩ := E.there ⟨i, k, d, h1, q1⟩
          rw [z] at hu; cases hu
      split at h1
      · next hi =>
        split at h2
        · exact E.dist i j a k d k' d' h1 h2 q1 q2
        · next hj => exact cross i j k d k' d' hi hj h1 h2 q1 q2
      · next hi =>
        split at h2
        · next hj => exact (cross j i k' d' k d hj hi h2 h1 q2 q1).symm
        · next hj => exact s.er.dist i j a k d k' d' h1 h2 (by rw [wipe_out hi]; exact q1) (by rw [wipe_out hj]; exact q2)
  have am1 : ∀ a, AM σ (rest en en1 vs) a → AM σ en a ∨ AM (L2.wipe σ vs) en1 a := fun a ⟨i, k, d, h, q⟩ => by
    rw [rest_get hl] at h
    split at h
    · exact .inl ⟨i, k, d, h, q⟩
    · next hm => exact .inr ⟨i, k, d, h, by rw [wipe_out hm]; exact q⟩
  refine ⟨⟨fun b o h n => s.fr b o h fun z => n (maw b z).1, er, fun a ⟨i, k, d, h, hk, q⟩ => ?_, fun a z => ?_, fun i k d h hk => ⟨rfl, ?_⟩, by rw [rest_len, hl]⟩, am1⟩
  · rw [rest_get hl] at h
    split at h
    · exact .inl ⟨i, k, d, h, hk, q⟩
    · next hm => exact (s.ma a ⟨i, k, d, h, hk, by rw [wipe_out hm]; exact q⟩).imp (fun z => (maw a z).1) id
  · rcases am1 a z with z | z
    · exact .inl z
    · exact (s.am a z).imp (fun z => (amw a z).1) id
  · rw [rest_get hl]
    split
    · exact ⟨d, h, fun _ => rfl⟩
    · next hm =>
      obtain ⟨_, d', h', l⟩ := s.kp i k d (by rw [wipeE_get, if_neg hm]; exact h) hk
      exact ⟨d', h', l⟩
end
section
variable {X : Cx} {tg iter elt : Expr} {ifs : List Expr} {pos : Pos} {src : M Src} {g : TgF} {ft : M Bool} {fe : M D} {vs ts : List Nat}
abbrev W0 : WX := fun _ _ _ _ => False
theorem wipe_chg {σ σ' : L2.St} (c : Chg ts (L2.wipe σ vs) σ') (h : ∀ i ∈ ts, i ∈ vs) : L2.wipe σ' vs = L2.wipe σ vs := by
  have hl : σ'.length = σ.length := by rw [c.1, wipe_length]
  apply List.ext_getElem?
  intro i
  rw [wipe_get, wipe_get]
  split
  · rw [hl]
  · next hm => rw [c.2 i (fun z => hm (h i z)), wipe_out hm]
def finL (out : En → En) (acc : List D) (o : Out (List D)) : Out R := match o with
  | .ok r en' => .ok (.fr (.lst (acc ++ r))) (out en')
  | _ => .bad
theorem finL_ok {out : En → En} {acc r : List D} {en' : En} : finL out acc (.ok r en') = .ok (.fr (.lst (acc ++ r))) (out en') := rfl
theorem lim_upd {K : PySem.W.Frag} {H : Hp} {A : Addr} {ys : List V} (l1 : Lim K H) (hy : ys.length ≤ sizeLine) : Lim K (upd H A (.lst ys)) := by
  intro b xs h
  by_cases hb : b = A
  · subst hb
    rcases h with h | h
    · rcases h with (h | ⟨o, h⟩) | ⟨o, its, n, h1, h2, h3, h4, h5, r⟩
      · rw [upd_same] at h; cases h; exact hy
      · rw [upd_same] at h; cases h
      · have := r.length; simp only [Array.length_toList] at this; omega
    · rcases h with (h | ⟨o, h⟩) | ⟨o, its, n, h1, h2, h4, h5, r⟩
      · rw [upd_same] at h; cases h
      · rw [upd_same] at h; cases h
      · have := r.length; simp only [Array.length_toList] at this; omega
  · refine l1 b xs (h.imp (fun h => ?_) fun h => ?_)
    · rcases h with (h | ⟨o, h⟩) | h
      · rw [upd_ne hb] at h; exact .inl (.inl h)
      · rw [upd_ne hb] at h; exact .inl (.inr ⟨o, h⟩)
      · exact .inr h
    · rcases h with (h | ⟨o, h⟩) | h
      · rw [upd_ne hb] at h; exact .inl (.inl h)
      · rw [upd_ne hb] at h; exact .inl (.inr ⟨o, h⟩)
      · exact .inr h
theorem finL_bnd {α : Type} {out : En → En} {acc : List D} {m : Out α} {f : α → En → Out (List D)} : finL out acc (match m with
  | .ok a e => f a e
  | .err c e => .err c e
  | .bad => .bad) = match m with
  | .ok a e => finL out acc (f a e)
  | _ => .bad := by cases m <;> rfl
/-- a comprehension's block -/
theorem lc_read {W : WX} {J : It} {ds : List D} {lk : Option Nat} {σ : L2.St} {H H1 : Hp} {en en1 enl : En} {out : En → En} {Q : VK} (hts : ∀ i ∈ ts, i ∈ vs) (w : WR X σ H1 J ds lk) (l1 : Lim X.K H1) (s1 : Stp X.K X.mg σ H en σ H1 en1) (El : EnR X.K X.mg σ H1 enl)
    (hlk : ∀ i, lk = some i → i ∉ vs → ∃ d, enl[i]? = some (.mu .lck d)) (hlv : ∀ i, lk = some i → i ∈ vs → ∃ k d, enl[i]? = some (.mu k d))
    (hout : ∀ H2 en2, Stp X.K X.mg (L2.wipe σ vs) H1 (wipeE enl vs) (L2.wipe σ vs) H2 en2 → Stp X.K X.mg σ H1 en1 σ H2 (out en2) ∧ ∀ a, AM σ (out en2) a → AM σ en1 a ∨ AM (L2.wipe σ vs) en2 a)
    (post : PostG X.K X.mg W σ H en (relR X σ H en) (finL out [] (lcL vs g ft fe ds (wipeE enl vs))) Q) :
    ∀ D, H1 D = none → ∃ Wi : Nat → Nat → Hp → Prop, (∃ m, Wi 0 m (upd H1 D (.lst []))) ∧ ∀ i m H, Wi i m H →
      (J.stop i H ∧ Q (.ref D) H) ∨ (J.go i H ∧ ∃ Nx : Hp → Prop, (∀ H', Nx H' → ∃ m', m' < m ∧ Wi (i + 1) m' H') ∧ ∀ x H', J.yld i H x H' → canG X.K X.mg ts g x (L2.wipe σ vs) H' fun σ2 H2 => L2.wipe σ2 vs = L2.wipe σ vs ∧ canT X.K X.mg W0 ft σ2 H2 fun b H3 =>
        if b = true then canV X.K X.mg W0 fe σ2 H3 fun y H4 => ∃ acc, H4 D = some (.lst acc) ∧ acc.length < sizeLine ∧ Nx (upd H4 D (.lst (acc ++ [y]))) else Nx H3) := by
  intro A hA
  obtain ⟨hsz, G, Y, wk, hG, hY⟩ := w
  have Ew := El.wipe vs
  have sN : Same H1 (upd H1 A (.lst [])) := same_new hA
  have nA : ¬ AM (L2.wipe σ vs) (wipeE enl vs) A := fun z => by
    obtain ⟨u, hu, _⟩ := Ew.there z
    rw [hA] at hu; cases hu
  refine ⟨fun i m Hc => m = ds.length - i ∧ i ≤ ds.length ∧ Lim X.K Hc ∧ ∃ en' acc accD, Stp X.K X.mg (L2.wipe σ vs) H1 (wipeE enl vs) (L2.wipe σ vs) Hc en' ∧ Hc A = some (.lst acc) ∧ DrL X.K X.mg Hc acc accD ∧ accD.length ≤ i ∧ ¬ AM (L2.wipe σ vs) en' A ∧
      PostG X.K X.mg W σ H en (relR X σ H en) (finL out accD (lcL vs g ft fe (ds.drop i) en')) Q, ⟨_, rfl, Nat.zero_le _, ?_, wipeE enl vs, [], [], Stp.same Ew sN, upd_same, .nil, Nat.zero_le _, nA, by rw [List.drop_zero]; exact post⟩, ?_⟩
  · exact lim_upd l1 (Nat.zero_le _)
  rintro i m Hc ⟨rfl, hi, lc, en', acc, accD, s', hAc, tA, hle, nAc, post'⟩
  have mo' := s'.mo Ew
  have still : G Hc := hG Hc mo' fun j a e q => by
    obtain ⟨k0, d0, hd⟩ : ∃ k d, enl[j]? = some (.mu k d) := by
      by_cases hj : j ∈ vs
      · exact hlv j e hj
      · obtain ⟨d, hd⟩ := hlk j e hj
        exact ⟨_, d, hd⟩
    obtain ⟨a', q', mu⟩ := El.mu j k0 d0 hd
    rw [q] at q'; cases q'
    obtain ⟨u, hu, _⟩ := mu.ne
    rw [hu]
    refine s'.fr a u hu fun z => ?_
    obtain ⟨j2, k2, d2, h2, hk2, q2⟩ := z
    obtain ⟨hm2, h2'⟩ := wiped h2 (by simp)
    rw [wipe_out hm2] at q2
    have := El.dist j j2 a k0 d0 k2 d2 hd h2' q q2
    subst this
    by_cases hj : j ∈ vs
    · exact hm2 hj
    · obtain ⟨d, hd'⟩ := hlk j e hj
      rw [hd'] at h2'; cases h2'; exact hk2 rfl
  by_cases hlt : i < ds.length
  · refine .inr ⟨wk.goes i Hc hlt still, fun H2 => Lim X.K H2 ∧ ∃ en2 acc accD, Stp X.K X.mg (L2.wipe σ vs) H1 (wipeE enl vs) (L2.wipe σ vs) H2 en2 ∧ H2 A = some (.lst acc) ∧ DrL X.K X.mg H2 acc accD ∧ accD.length ≤ i + 1 ∧ ¬ AM (L2.wipe σ vs) en2 A ∧
      PostG X.K X.mg W σ H en (relR X σ H en) (finL out accD (lcL vs g ft fe (ds.drop (i + 1)) en2)) Q, fun H2 ⟨l2, h2⟩ => ⟨ds.length - (i + 1), by omega, rfl, hlt, l2, h2⟩, fun x H2 y => ?_⟩
    obtain ⟨sm, lm, d, hd, rd⟩ := hY i Hc x H2 mo' (wk.yields i Hc x H2 hlt still y)
    have l2 := lm lc
    have s2 := Stp.same s'.er sm
    have ed : ds.drop i = d :: ds.drop (i + 1) := by
      have hg : ds[i]'hlt = d := by rw [List.getElem?_eq_getElem hlt] at hd; cases hd; rfl
      rw [List.drop_eq_getElem_cons hlt, hg]
    rw [ed] at post'
    refine ⟨l2, d, en', s2.er, rd, ?_⟩
    unfold lcL at post'
    unfold M.bnd tgM at post'
    cases qg : g d en' with
    | none => simp only [qg, finL] at post'; exact post'.elim
    | some en2 =>
      simp only [qg] at post'
      intro σ2 s3 ch
      have s3 := s2.trans s3
      refine ⟨wipe_chg ch hts, l2, en2, s3.er, ?_⟩
      have base := s'.trans s3
      have acc3 : ∀ {Hx : Hp} {σx : L2.St} {enx : En}, Stp X.K X.mg (L2.wipe σ vs) Hc en' σx Hx enx → Hx A = some (.lst acc) ∧ ¬ AM σx enx A := fun {Hx σx enx} sx => ⟨sx.fr A _ hAc fun z => nAc z.am, fun z => by
        rcases sx.am A z with z | z
        · exact nAc z
        · rw [hAc] at z; cases z⟩
      have hwf : ∀ i ∈ vs, ∀ k d, (wipeE enl vs)[i]? = some (.mu k d) → k = .own := fun i hi k d h => absurd hi (wiped h (by simp)).1
      cases qt : ft en2 with
      | bad => simp only [qt, finL] at post'; exact post'.elim
      | err c e => simp only [qt, finL] at post'; exact post'.elim
      | ok kk en3 =>
        simp only [qt] at post'
        intro b H3 l3 s4 rb
        subst rb
        have s4 := s3.trans s4
        cases b with
        | false =>
          rw [if_neg Bool.false_ne_true]
          simp only [Bool.false_eq_true, if_false] at post'
          obtain ⟨ha3, na3⟩ := acc3 s4
          have st := (s'.trans s4).wipe vs hwf
          rw [wipe_chg ch hts] at st
          refine ⟨l3, wipeE en3 vs, acc, accD, st, ha3, tA.mo (s4.mo s'.er), by omega, fun z => ?_, post'⟩
          obtain ⟨j, k2, d2, h2, q2⟩ := z
          obtain ⟨hm2, h2'⟩ := wiped h2 (by simp)
          rw [wipe_get, if_neg hm2] at q2
          have q2' : σ2[j]? = some (some (.ref A)) := by rw [ch.2 j fun z => hm2 (hts j z), wipe_out hm2]; exact q2
          exact na3 ⟨j, k2, d2, h2', q2'⟩
        | true =>
          rw [if_pos rfl]
          simp only [if_true] at post'
          refine ⟨l3, en3, s4.er, ?_⟩
          cases qe : fe en3 with
          | bad => simp only [qe, finL] at post'; exact post'.elim
          | err c e => simp only [qe, finL] at post'; exact post'.elim
          | ok dy en4 =>
            simp only [qe] at post'
            intro yv H4 l4 s5 ry
            have s5 := s4.trans s5
            obtain ⟨ha4, na4⟩ := acc3 s5
            have tA4 := tA.mo (s5.mo s'.er)
            have hlen : acc.length ≤ i := by rw [tA.length]; exact hle
            refine ⟨acc, ha4, by omega, lim_upd l4 (by rw [List.length_append, List.length_singleton]; omega), ?_⟩
            have nw : ¬ AM (L2.wipe σ vs) (wipeE en4 vs) A := fun z => by
              obtain ⟨j, k2, d2, h2, q2⟩ := z
              obtain ⟨hm2, h2'⟩ := wiped h2 (by simp)
              rw [wipe_get, if_neg hm2] at q2
              have q2' : σ2[j]? = some (some (.ref A)) := by rw [ch.2 j fun z => hm2 (hts j z), wipe_out hm2]; exact q2
              exact na4 ⟨j, k2, d2, h2', q2'⟩
            have st := (s'.trans s5).wipe vs hwf
            rw [wipe_chg ch hts] at st
            have st := st.off (o := .lst (acc ++ [yv])) ha4 trivial nw (.inr hA)
            have mu : Mo H4 (upd H4 A (.lst (acc ++ [yv]))) := mo_upd ha4 trivial
            refine ⟨wipeE en4 vs, acc ++ [yv], accD ++ [dy], st, upd_same, (tA4.mo mu).snoc (ry.mo mu), by rw [List.length_append, List.length_singleton]; omega, nw, ?_⟩
            · cases qr : lcL vs g ft fe (ds.drop (i + 1)) (wipeE en4 vs) with
              | bad => simp only [qr, finL] at post'; exact post'.elim
              | err c e => simp only [qr, finL] at post'; exact post'.elim
              | ok r en5 =>
                simp only [qr, finL] at post' ⊢
                rw [List.append_assoc]
                exact post'
  · have e : i = ds.length := by omega
    subst e
    rw [List.drop_length] at post'
    refine .inl ⟨wk.stops Hc still, ?_⟩
    obtain ⟨so, ao⟩ := hout Hc en' s'
    have post' : PostG X.K X.mg W σ H en (relR X σ H en) (.ok (.fr (.lst (accD ++ []))) (out en')) Q := post'
    rw [List.append_nil] at post'
    refine post' (.ref A) Hc lc (s1.trans so) ⟨A, rfl, ⟨acc, hAc, tA⟩, fun z => ?_, ?_⟩
    · rcases ao A z with z | z
      · obtain ⟨u, hu, _⟩ := s1.er.there z
        rw [hA] at hu; cases hu
      · exact nAc z
    · by_cases z : MA σ en A
      · exact .inl z
      · cases q : H A with
        | none => exact .inr rfl
        | some u => rw [s1.fr A u q z] at hA; cases hA
end
end Fw
set_option Elab.async false
set_option linter.all false
set_option maxRecDepth 100000
set_option maxHeartbeats 4000000
namespace Fw
open PySem PySem.Spec PyProof.Rows L2

/-! ### list comprehensions, told -/
section
variable {X : Cx} {W : WX} {tg iter elt : Expr} {ifs : List Expr} {pos : Pos} {src : M Src} {g : TgF} {ft : M Bool} {fe : M D} {ts : List Nat} {scope : Scope} {own : List (Str × Nat)}
theorem lc_post {t : TI} {vs : List Nat} {σ : L2.St} {H : Hp} {en : En} {Q : VK} (ki : ∀ σ H en R, Lim X.K H → EnR X.K X.mg σ H en → PostG X.K X.mg W σ H en (fun H' _ J p => WR X σ H' J p.1 p.2) (src en) R → t σ H R) (hts : ∀ i ∈ ts, i ∈ vs)
    (l : Lim X.K H) (E : EnR X.K X.mg σ H en) (post : PostG X.K X.mg W σ H en (relR X σ H en) (lcM src vs g ft fe en) Q) : tLc t (canG X.K X.mg ts g) (canT X.K X.mg W0 ft) (canV X.K X.mg W0 fe) vs σ H Q := by
  refine ki σ H en _ l E (PostG.bindAt (Stp.refl E) post fun p en1 J H1 _ l1 s1 w post1 => ?_)
  obtain ⟨ds, lk⟩ := p
  cases lk with
  | none =>
    refine lc_read (W := W) (en1 := en1) (enl := en1) (out := fun en2 => rest en1 en2 vs) hts w l1 s1 s1.er (fun i e => nomatch e) (fun i e => nomatch e) (fun H2 en2 s2 => Stp.unwipe s1.er s2) ?_
    have post1 : PostG X.K X.mg W σ H en (relR X σ H en) (match lcL vs g ft fe ds (wipeE en1 vs) with
      | .ok r en' => .ok (.fr (.lst r)) (rest en1 en' vs)
      | _ => .bad) Q := post1
    cases q : lcL vs g ft fe ds (wipeE en1 vs) with
    | ok r e => rw [q] at post1; exact post1
    | err _ _ => rw [q] at post1; exact post1
    | bad => rw [q] at post1; exact post1
  | some i =>
    have post1 : PostG X.K X.mg W σ H en (relR X σ H en) (lockS i (fun en => match lcL vs g ft fe ds (wipeE en vs) with
      | .ok r en' => .ok (.fr (.lst r)) (rest en en' vs)
      | _ => .bad) en1) Q := post1
    unfold lockS at post1
    split at post1
    · next k d e =>
      have hi : i < en1.length := (List.getElem?_eq_some_iff.mp e).1
      refine lc_read (W := W) (en1 := en1) (enl := en1.set i (.mu .lck d)) (out := fun en2 => (rest (en1.set i (.mu .lck d)) en2 vs).set i (.mu k d)) hts w l1 s1 (s1.er.lck e) (fun j e' hj => by cases e'; exact ⟨d, List.getElem?_set_self hi⟩) (fun j e' hj => by cases e'; exact ⟨.lck, d, List.getElem?_set_self hi⟩) (fun H2 en2 s2 => ?_) ?_
      · obtain ⟨u, v⟩ := Stp.unwipe (s1.er.lck e) s2
        obtain ⟨u1, u2, u3⟩ := Stp.unlock e u
        refine ⟨u1, fun a z => ?_⟩
        rcases v a ((am_lck u2).mp z) with z | z
        · exact .inl ((am_lck e).mp z)
        · exact .inr z
      · cases q : lcL vs g ft fe ds (wipeE (en1.set i (.mu .lck d)) vs) with
        | ok r e => simp only [q] at post1; exact post1
        | err _ _ => simp only [q] at post1; exact post1
        | bad => simp only [q] at post1; exact post1
    · exact post1.elim
theorem de_lc (hc : X.calm = true) (hN : X.N.Nodup) (hi : DI X W tg iter src) (ok : BlkOk X.N X.env.scope scope own) (hts : ∀ i ∈ ts, i ∈ own.map (·.2))
    (hg : ∀ (s : Shared) (H : Hp) (C : Addr) (cl : List (Str × Addr)) (fp : List Addr), DGc (X.blk s H scope (compEnvC scope cl C X.env) fp) tg ts g)
    (ht : ∀ (s : Shared) (H : Hp) (C : Addr) (cl : List (Str × Addr)) (fp : List Addr), DTs (X.blk s H scope (compEnvC scope cl C X.env) fp) W0 ifs ft)
    (he : ∀ (s : Shared) (H : Hp) (C : Addr) (cl : List (Str × Addr)) (fp : List Addr), DV (X.blk s H scope (compEnvC scope cl C X.env) fp) W0 elt fe) (hs : ∀ x, foldedSetIterable iter X.env x = pure x := by intro _; rfl) :
    DE X W (.ListComp elt [⟨tg, iter, ifs, 0⟩] scope pos) (lcM src (own.map (·.2)) g ft fe) := by
  obtain ⟨wi, pi, ki⟩ := hi.ex
  exact ⟨_, pe_lc hc hN pi ok (fun s H C cl fp => (hg s H C cl fp).can) (fun s H C cl fp => (ht s H C cl fp).can) (fun s H C cl fp => (he s H C cl fp).can) hs, fun σ H en Q l E post => lc_post ki hts l E post⟩
theorem ds_setLc (i : Nat) {x : Str} {pos' : Pos} {spos : Pos} (hc : X.calm = true) (hN : X.N.Nodup) (hsw : swapsWith (.ListComp elt [⟨tg, iter, ifs, 0⟩] scope pos) (some (.Name x pos')) spos.line X.env = pure true) (hi : DI X W tg iter src) (ok : BlkOk X.N X.env.scope scope own) (hts : ∀ i ∈ ts, i ∈ own.map (·.2))
    (hg : ∀ (s : Shared) (H : Hp) (C : Addr) (cl : List (Str × Addr)) (fp : List Addr), DGc (X.blk s H scope (compEnvC scope cl C X.env) fp) tg ts g)
    (ht : ∀ (s : Shared) (H : Hp) (C : Addr) (cl : List (Str × Addr)) (fp : List Addr), DTs (X.blk s H scope (compEnvC scope cl C X.env) fp) W0 ifs ft)
    (he : ∀ (s : Shared) (H : Hp) (C : Addr) (cl : List (Str × Addr)) (fp : List Addr), DV (X.blk s H scope (compEnvC scope cl C X.env) fp) W0 elt fe)
    (hy : X.N[i]? = some x := by rfl) (hyl : X.env.scope.names.lookup x = some .local := by rfl) (hs : ∀ x, foldedSetIterable iter X.env x = pure x := by intro _; rfl) :
    DS X W (.Assign [.Name x pos'] (.ListComp elt [⟨tg, iter, ifs, 0⟩] scope pos) spos) (setS i (lcM src (own.map (·.2)) g ft fe)) := by
  obtain ⟨wi, pi, ki⟩ := hi.ex
  refine DS.mk' (ps_setLc (g := canG X.K X.mg ts g) (tt := canT X.K X.mg W0 ft) (te := canV X.K X.mg W0 fe) hc hN hy hyl hsw pi ok (fun s H C cl fp => (hg s H C cl fp).can) (fun s H C cl fp => (ht s H C cl fp).can) (fun s H C cl fp => (he s H C cl fp).can) hs) fun σ H en D l E post => ?_
  show tLc _ _ _ _ _ σ H _
  refine lc_post (fe := fe) ki hts l E (PostG.mono (PostS.expr E post fun r en1 v H1 _ l1 s1 rr q => ?_) (fun _ _ _ _ _ _ h => h) fun _ _ h _ => h)
  rcases setR_ok (i := i) (r := r) (en := en1) with ⟨en2, h⟩ | h
  · rw [bnd_ok h] at q
    exact q _ H1 l1 (s1.setR rr h)
  · rw [bnd_bad h] at q
    exact q.elim
end
end Fw
set_option Elab.async false
set_option linter.all false
set_option maxRecDepth 100000
set_option maxHeartbeats 4000000
namespace Fw
open PySem PySem.Spec PyProof.Rows L2

/-! ### methods that change a name's list or dict -/
def shOk (T : String) : D → Bool
  | .lst _ => T == "list"
  | .dic _ _ => T == "dict"
  | _ => false
structure MetD (X : Cx) (T : String) (name : Str) (f : D → List D → Option (D × D)) : Prop where
  ex : ∃ (id : String) (r : V → List V → Hp → VK → Prop), PlainAttrs T ∧ Slot T name id ∧ typeOf (.builtin id) = pure (.type "method_descriptor") ∧ MtR X id r ∧
    ∀ H a d vs ds d' x Q, Lim X.K H → MuC X.K X.mg H a d → DrL X.K X.mg H vs ds → f d ds = some (d', x) → (∀ o v, MuC X.K X.mg (upd H a o) a d' → Dr X.K X.mg (upd H a o) v x → Q v (upd H a o)) → r (.ref a) vs H Q
def mutK (i : Nat) (f : D → List D → Option (D × D)) (ds : List D) : M R := fun en => match en[i]? with
  | some (.mu .lck _) => .bad
  | some (.mu k d) => (match f d ds with
    | some (d', x) => .ok (.v x) (en.set i (.mu k d'))
    | none => .bad)
  | _ => .bad
def mutM (T : String) (i : Nat) (f : D → List D → Option (D × D)) (fs : M (List D)) : M R := fun en => match en[i]? with
  | some (.mu _ d) => if shOk T d then M.bnd fs (mutK i f) en else .bad
  | _ => .bad
section
variable {X : Cx} {W : WX} {e : Expr} {es : List Expr} {apos cpos pos : Pos} {fs : M (List D)} {f : D → List D → Option (D × D)} {T : String} {name x : Str}
theorem ty_of {H : Hp} {a : Addr} {d : D} (m : MuC X.K X.mg H a d) (h : shOk T d = true) : tyV X.K T (.ref a) H := by
  cases d with
  | lst ds =>
    obtain ⟨xs, q, _⟩ := m
    exact .inl ⟨eq_of_beq h, xs, .inl (.inl q)⟩
  | dic ks vs =>
    refine .inr (.inr (.inl ⟨eq_of_beq h, ?_⟩))
    rcases m with ⟨kvs, q, _⟩ | ⟨kvs, q, _⟩
    · exact .inl ⟨kvs, q⟩
    · exact .inr ⟨kvs, q⟩
  | _ => cases h
theorem mut_end {id : String} {r : V → List V → Hp → VK → Prop} {i : Nat} {σ : L2.St} {H H1 : Hp} {en en1 : En} {a : Addr} {vs : List V} {ds : List D} {Q : VK}
    (kr : ∀ H a d vs ds d' x Q, Lim X.K H → MuC X.K X.mg H a d → DrL X.K X.mg H vs ds → f d ds = some (d', x) → (∀ o v, MuC X.K X.mg (upd H a o) a d' → Dr X.K X.mg (upd H a o) v x → Q v (upd H a o)) → r (.ref a) vs H Q)
    (q : σ[i]? = some (some (.ref a))) (l1 : Lim X.K H1) (s1 : Stp X.K X.mg σ H en σ H1 en1) (rl : DrL X.K X.mg H1 vs ds) (post : PostG X.K X.mg W σ H en (relR X σ H en) (mutK i f ds en1) Q) : r (.ref a) vs H1 fun v H' => Lim X.K H' → Q v H' := by
  unfold mutK at post
  split at post
  · exact post.elim
  · next k d hk e =>
    obtain ⟨a', q', m⟩ := s1.er.mu i k d e
    rw [q] at q'; cases q'
    split at post
    · next d' x hf =>
      exact kr H1 a d vs ds d' x _ l1 m rl hf fun o v m' r' l' => post v _ l' (s1.trans (Stp.put s1.er e hk q m')) r'
    · exact post.elim
  · exact post.elim
theorem de_mut (i : Nat) (hm : MetD X T name f) (ha : DAV X W (e :: es) fs) (hN : X.N[i]? = some x := by rfl) (hv : Vis X.env.scope x := by first | exact Or.inl rfl | exact Or.inr (Or.inl rfl) | exact Or.inr (Or.inr rfl)) (hd : (x == ("__debug__" : Str)) = false := by decide)
    (hcd : (x == ("__classdict__" : Str)) = false := by decide) (hbase : attributeBase (.Name x pos) name X.env (eval (.Name x pos) X.env) = eval (.Name x pos) X.env := by rfl)
    (hfew : ((backTo cpos (starEach (e :: es) X.env)).all (fun x => !x.1) && (backToKw cpos (keywordEach [] X.env)).all (fun x => x.1.isSome)
      && decide ((e :: es).length + ([] : List Keyword).length + (if ([] : List Keyword).isEmpty then 0 else 1) < 30)) = true := by rfl)
    (hline : (apos.endLine == cpos.line) = true := by rfl) (hs : starEach (e :: es) X.env = (false, eval e X.env) :: starEach es X.env := by rfl) (hplain : (backTo cpos (starEach es X.env)).any (·.1) = false := by rfl) :
    DE X W (.Call (.Attribute (.Name x pos) name apos) (e :: es) [] cpos) (mutM T i f fs) := by
  obtain ⟨ta, pa, ka⟩ := ha.ex
  obtain ⟨id, r, at', slot, hty, mt, kr⟩ := hm.ex
  refine DE.mk' (pe_bm at' slot hty mt (pe_var hN hv hd hcd) pa hbase hfew hline hs hplain) fun σ H en Q l E post => ?_
  unfold mutM at post
  split at post
  · next k d e0 =>
    split at post
    · next hsh =>
      obtain ⟨a, q, m⟩ := E.mu i k d e0
      refine ⟨.ref a, q, ty_of m hsh, ka σ H en _ l E (PostG.bindAt (Stp.refl E) post fun ds en1 vs H1 _ l1 s1 rl post1 => ?_)⟩
      exact mut_end (id := id) kr q l1 s1 rl post1
    · exact post.elim
  · exact post.elim
theorem de_mut0 (i : Nat) (hm : MetD X T name f) (hN : X.N[i]? = some x := by rfl) (hv : Vis X.env.scope x := by first | exact Or.inl rfl | exact Or.inr (Or.inl rfl) | exact Or.inr (Or.inr rfl)) (hd : (x == ("__debug__" : Str)) = false := by decide)
    (hcd : (x == ("__classdict__" : Str)) = false := by decide) (hbase : attributeBase (.Name x pos) name X.env (eval (.Name x pos) X.env) = eval (.Name x pos) X.env := by rfl)
    (hline : (apos.endLine == cpos.line) = true := by rfl) : DE X W (.Call (.Attribute (.Name x pos) name apos) [] [] cpos) (mutM T i f nilV) := by
  obtain ⟨id, r, at', slot, hty, mt, kr⟩ := hm.ex
  refine DE.mk' (pe_bm0 at' slot hty mt (pe_var hN hv hd hcd) hbase hline) fun σ H en Q l E post => ?_
  unfold mutM at post
  split at post
  · next k d e0 =>
    split at post
    · next hsh =>
      obtain ⟨a, q, m⟩ := E.mu i k d e0
      exact ⟨.ref a, q, ty_of m hsh, mut_end (id := id) kr q l (Stp.refl E) .nil post⟩
    · exact post.elim
  · exact post.elim
def appendF : D → List D → Option (D × D)
  | .lst xs, [d] => if xs.length < sizeLine then some (.lst (xs ++ [d]), .non) else none
  | _, _ => none
theorem met_append : MetD X "list" "append" appendF := by
  refine ⟨_, _, PySem.F.plainAttrs_list, PySem.F.slot_list_append, PySem.F.type_list_append, mt_append, fun H a d vs ds d' x Q l m r hf q => ?_⟩
  cases d with
  | lst xs =>
    cases r with
    | nil => cases hf
    | @cons v vs d ds r t =>
      cases t with
      | cons _ _ => cases hf
      | nil =>
        unfold appendF at hf
        simp only at hf
        split at hf
        · next c =>
          cases hf
          obtain ⟨us, h, t⟩ := m
          have mo : Mo H (upd H a (.lst (us ++ [v]))) := mo_upd h trivial
          exact ⟨a, us, v, rfl, rfl, h, by rw [t.length]; exact c, q _ _ ⟨_, upd_same, (t.mo mo).snoc (r.mo mo)⟩ .non⟩
        · cases hf
  | _ => cases hf
def popF : D → List D → Option (D × D)
  | .lst xs, [] => (xs[xs.length - 1]?).map fun d => (.lst xs.dropLast, d)
  | .lst xs, [.int i] => (ixN xs.length i).bind fun k => (xs[k]?).map fun d => (.lst (xs.eraseIdx k), d)
  | _, _ => none
theorem DrL.eraseIdx {K : PySem.W.Frag} {mg : Str → Option Value} {H : Hp} : ∀ {vs : List V} {ds : List D} (i : Nat), DrL K mg H vs ds → DrL K mg H (vs.eraseIdx i) (ds.eraseIdx i)
  | _, _, _, .nil => by simp only [List.eraseIdx_nil]; exact .nil
  | _, _, 0, .cons r t => t
  | _, _, i + 1, .cons r t => .cons r (DrL.eraseIdx i t)
theorem DrL.dropLast {K : PySem.W.Frag} {mg : Str → Option Value} {H : Hp} {vs : List V} {ds : List D} (t : DrL K mg H vs ds) : DrL K mg H vs.dropLast ds.dropLast := by
  rw [List.dropLast_eq_take, List.dropLast_eq_take, t.length]
  exact t.take _
theorem mt_popR : MtR X "list.pop" (fun x vs H Q => rPop x vs H Q ∨ rPopAt x vs H Q) := by
  intro pins s σ H x xs v us Q I rx rxs h
  rcases h with h | h
  · exact mt_pop pins s σ H x xs v us Q I rx rxs h
  · exact mt_popAt pins s σ H x xs v us Q I rx rxs h
theorem met_pop : MetD X "list" "pop" popF := by
  refine ⟨_, _, PySem.F.plainAttrs_list, PySem.F.slot_list_pop, PySem.F.type_list_pop, mt_popR, fun H a d vs ds d' x Q l m r hf q => ?_⟩
  cases d with
  | lst xs =>
    obtain ⟨us, h, t⟩ := m
    cases r with
    | nil =>
      have hf : (xs[xs.length - 1]?).map (fun d => (D.lst xs.dropLast, d)) = some (d', x) := hf
      cases e : xs[xs.length - 1]? with
      | none => rw [e] at hf; cases hf
      | some y =>
        rw [e] at hf
        cases hf
        obtain ⟨v, e2, rv⟩ := t.get e
        have mo : Mo H (upd H a (.lst us.dropLast)) := mo_upd h trivial
        exact .inl ⟨a, us, v, rfl, rfl, h, by rw [t.length]; exact e2, q _ _ ⟨_, upd_same, t.dropLast.mo mo⟩ (rv.mo mo)⟩
    | @cons v vs d ds r t1 =>
      cases t1 with
      | cons _ _ => cases d <;> cases hf
      | nil =>
        cases d with
        | int i =>
          cases r
          have hf : (ixN xs.length i).bind (fun k => (xs[k]?).map fun d => (D.lst (xs.eraseIdx k), d)) = some (d', x) := hf
          cases ek : ixN xs.length i with
          | none => rw [ek] at hf; cases hf
          | some k =>
            rw [ek] at hf
            simp only [Option.bind] at hf
            cases e : xs[k]? with
            | none => rw [e] at hf; cases hf
            | some y =>
              rw [e] at hf
              cases hf
              obtain ⟨v, e2, rv⟩ := t.get e
              have mo : Mo H (upd H a (.lst (us.eraseIdx k))) := mo_upd h trivial
              obtain ⟨h1, h2, h3, h4⟩ := ixN_seq ek
              have hz := l a us (.inl (.inl (.inl h)))
              rw [t.length] at hz
              have h63 : (xs.length : Int) < 2 ^ 63 := by rw [sizeLine_eq] at hz; omega
              exact .inr ⟨a, us, i, k, v, rfl, rfl, h, by omega, by omega, by rw [t.length]; exact h1, e2, q _ _ ⟨_, upd_same, (t.eraseIdx k).mo mo⟩ (rv.mo mo)⟩
        | _ => cases hf
  | _ => cases hf
end

/-! ### name[i] = e -/
def setIx (i : Nat) (fe : M D) (fi : M R) : S := M.bnd fe fun d en0 => match en0[i]? with
  | some (.mu _ _) => (M.bnd fi fun r en => match en[i]?, peek en r with
    | some (.mu .lck _), _ => .bad
    | some (.mu k (.lst ds)), some (.int j) => (match ixN ds.length j with
      | some n => .ok .nx (en.set i (.mu k (.lst (ds.set n d))))
      | none => .bad)
    | _, _ => .bad) en0
  | _ => .bad
section
variable {X : Cx} {W : WX} {e ie : Expr} {pos p1 p2 : Pos} {fe : M D} {fi : M R} {x : Str}
theorem ds_setIx (i : Nat) (he : DV X W e fe) (hi : DE X W ie fi) (hN : X.N[i]? = some x := by rfl) (hv : Vis X.env.scope x := by first | exact Or.inl rfl | exact Or.inr (Or.inl rfl) | exact Or.inr (Or.inr rfl)) (hd : (x == ("__debug__" : Str)) = false := by decide)
    (hcd : (x == ("__classdict__" : Str)) = false := by decide)
    (ha : ∀ v, assign (.Subscript (.Name x p1) ie p2) X.env v = (do
      let ov ← holding [v] (eval (.Name x p1) X.env)
      let iv ← holding [v, ov] (eval ie X.env)
      standAt p2
      holding [v, ov, iv] (setItem ov iv v)
      release [v, ov, iv] []) := by intro _; rfl)
    (hs : swapsWithSole [.Subscript (.Name x p1) ie p2] e pos.line X.env = pure false := by rfl) (hw : swappedStores [.Subscript (.Name x p1) ie p2] e X.env = pure none := by rfl)
    (h1 : (assignEach [.Subscript (.Name x p1) ie p2] X.env).map (·.2) = [assign (.Subscript (.Name x p1) ie p2) X.env] := by rfl) : DS X W (.Assign [.Subscript (.Name x p1) ie p2] e pos) (setIx i fe fi) := by
  obtain ⟨te, pe, ke⟩ := he.ex
  obtain ⟨ti, pi, ki⟩ := hi.ex
  refine DS.mk' (ps_asg pe (pg_sub (pe_var hN hv hd hcd) pi set_list ha) hs hw h1) fun σ H en D l E post => ?_
  refine ke σ H en _ l E (PostS.expr E post fun d en1 v H1 _ l1 s1 rv post1 => ?_)
  split at post1
  · next k0 d0 e0 =>
    obtain ⟨a, q, m⟩ := s1.er.mu i k0 d0 e0
    refine ⟨.ref a, q, ?_⟩
    refine ki σ H1 en1 _ l1 s1.er (PostS.expr s1.er (PostS.shift s1 post1) fun r en2 w H2 _ l2 s2 rw2 post2 => ?_)
    split at post2
    · exact post2.elim
    · next k ds j hk e2 pk =>
      split at post2
      · next n hn =>
        obtain ⟨a', q', m2⟩ := s2.er.mu i k (.lst ds) e2
        rw [q] at q'; cases q'
        obtain ⟨xs, h, t⟩ := m2
        have hj := Rb.int (Rb.peek s2.er rw2 pk)
        subst hj
        have mo : Mo H2 (upd H2 a (.lst (xs.set n v))) := mo_upd h trivial
        have l3 : Lim X.K (upd H2 a (.lst (xs.set n v))) := lim_upd l2 (by rw [List.length_set]; exact l2 a xs (.inl (.inl (.inl h))))
        exact ⟨a, xs, j, n, rfl, rfl, h, by rw [t.length]; exact hn, fun _ => PostS.shift s1 post1 |> fun _ => post2 σ _ l3 (s2.trans (Stp.put s2.er e2 hk q ⟨_, upd_same, (t.mo mo).set ((rv.mo (s2.mo s1.er)).mo mo) n⟩))⟩
      · exact post2.elim
    · exact post2.elim
  · exact post1.elim
end
end Fw
set_option Elab.async false
set_option linter.all false
set_option maxRecDepth 100000
set_option maxHeartbeats 4000000
namespace Fw
open PySem PySem.Spec PyProof.Rows L2

/-! ### several names at once -/
def plainR (en : En) : R → Option R
  | .v d => some (.v d)
  | .fr d => some (.fr d)
  | .al k => match en[k]? with
    | some (.v d) => some (.v d)
    | _ => none
def par2 (i j : Nat) (fa fb : M R) : S := M.bnd fa fun r => M.bnd fb fun s en => match plainR en r, plainR en s with
  | some r, some s => (M.bnd (setR i r) fun _ => M.bnd (setR j s) fun _ => nopS) en
  | _, _ => .bad
def par3 (i j k : Nat) (fa fb fc : M R) : S := M.bnd fa fun r => M.bnd fb fun s => M.bnd fc fun u en => match plainR en r, plainR en s, plainR en u with
  | some r, some s, some u => (M.bnd (setR i r) fun _ => M.bnd (setR j s) fun _ => M.bnd (setR k u) fun _ => nopS) en
  | _, _, _ => .bad
section
variable {K : PySem.W.Frag} {mg : Str → Option Value} {σ σ0 σ1 σ2 : L2.St} {H H0 H1 H2 : Hp} {en en0 en1 en2 : En}
theorem RR.plain (E : EnR K mg σ1 H1 en1) {v : V} {r r' : R} (h : RR K mg σ H en σ1 H1 en1 v r) (p : plainR en1 r = some r') : RR K mg σ H en σ1 H1 en1 v r' ∧ ((∃ d, r' = .v d) ∨ ∃ d, r = .fr d ∧ r' = .fr d) := by
  cases r with
  | v d => cases p; exact ⟨h, .inl ⟨_, rfl⟩⟩
  | fr d => cases p; exact ⟨h, .inr ⟨_, rfl, rfl⟩⟩
  | al k =>
    unfold plainR at p
    simp only at p
    split at p
    · next d e =>
      cases p
      obtain ⟨v', q, r⟩ := E.val k d e
      have h : σ1[k]? = some (some v) := h
      rw [q] at h; cases h
      exact ⟨r, .inl ⟨_, rfl⟩⟩
    · cases p
theorem RR.setOther {v w : V} {r s : R} {i : Nat} (h : RR K mg σ0 H0 en0 σ1 H1 en1 w s) (hs : (∃ d, s = .v d) ∨ ∃ d, s = .fr d) (hr : (∃ d, r = .v d) ∨ ∃ d, r = .fr d) (hset : setR i r en1 = .ok () en2)
    (hd : ∀ a d d', r = .fr d → s = .fr d' → v = .ref a → w ≠ .ref a) : RR K mg σ0 H0 en0 (σ1.set i (some v)) H1 en2 w s := by
  rcases hs with ⟨d, rfl⟩ | ⟨d, rfl⟩
  · exact h
  · obtain ⟨a, rfl, m, n, z⟩ := h
    refine ⟨a, rfl, m, ?_, z⟩
    rintro ⟨j, k, x, e, q⟩
    unfold setR at hset
    split at hset
    · rcases hr with ⟨d', rfl⟩ | ⟨d', rfl⟩
      · cases hset
        by_cases hij : i = j
        · subst hij
          have hi := (List.getElem?_eq_some_iff.mp e).1
          rw [List.length_set] at hi
          rw [List.getElem?_set_self hi] at e
          cases e
        · rw [List.getElem?_set_ne hij] at e q
          exact n ⟨j, k, x, e, q⟩
      · cases hset
        by_cases hij : i = j
        · subst hij
          have hi := (List.getElem?_eq_some_iff.mp q).1
          rw [List.length_set] at hi
          rw [List.getElem?_set_self hi] at q
          cases q
          exact hd a d' d rfl rfl rfl rfl
        · rw [List.getElem?_set_ne hij] at e q
          exact n ⟨j, k, x, e, q⟩
    · cases hset
/-- two things made one after the other differ -/
theorem RR.apart {σa : L2.St} {Ha : Hp} {ena : En} {v w : V} {d d' : D} {a : Addr} (h : RR K mg σa Ha ena σ1 H1 en1 v (.fr d)) (h2 : RR K mg σ1 H1 en1 σ2 H2 en2 w (.fr d')) (hv : v = .ref a) : w ≠ .ref a := by
  rintro rfl
  obtain ⟨b, e, m, n, _⟩ := h
  rw [hv] at e; cases e
  obtain ⟨c, e, _, _, z⟩ := h2
  cases e
  rcases z with z | z
  · exact n z.am
  · obtain ⟨u, hu, _⟩ := m.ne
    rw [z] at hu; cases hu
end
section
variable {X : Cx} {W : WX} {a b c : Expr} {fa fb fc : M R} {pos px py pz pt pt2 : Pos} {kt k2 : Nat} {x y z : Str}
theorem PostS.exprAt {σ : L2.St} {H H1 : Hp} {en en1 : En} {α β : Type} {rel : Hp → En → β → α → Prop} {m : M α} {k : α → S} {D : Ends} {Q1 : β → Hp → Prop} (st : Stp X.K X.mg σ H en σ H1 en1) (h : PostS X W σ H en ((M.bnd m k) en1) D)
    (q : ∀ a en2 b H2, m en1 = .ok a en2 → Lim X.K H2 → Stp X.K X.mg σ H1 en1 σ H2 en2 → rel H2 en2 b a → PostS X W σ H en (k a en2) D → Q1 b H2) : PostG X.K X.mg W σ H1 en1 rel (m en1) Q1 := by
  unfold M.bnd at h
  cases e : m en1 with
  | ok a en2 => rw [e] at h; exact fun b H2 l s r => q a en2 b H2 e l s r h
  | err x en2 => rw [e] at h; exact fun cls d H' s x => h cls d σ H' (st.trans s) x
  | bad => rw [e] at h; exact h
theorem ds_par (i j : Nat) {kt k2} (hc : X.calm = true) (ha : DE X W a fa) (hb : DE X W b fb) (hN : X.N.Nodup) (hi : X.N[i]? = some x := by rfl) (hj : X.N[j]? = some y := by rfl) (hij : i ≠ j := by decide)
    (hx : X.env.scope.names.lookup x = some .local := by rfl) (hy : X.env.scope.names.lookup y = some .local := by rfl)
    (hw : swappedStores [.Tuple [.Name x px, .Name y py] kt pt] (.Tuple [a, b] k2 pt2) X.env = pure (some [x, y]) := by rfl)
    (hs : swapsWithSole [.Tuple [.Name x px, .Name y py] kt pt] (.Tuple [a, b] k2 pt2) pos.line X.env = pure false := by rfl)
    (h1 : starEach [a, b] X.env = (false, eval a X.env) :: starEach [b] X.env := by rfl) (h2 : starEach [b] X.env = (false, eval b X.env) :: starEach [] X.env := by rfl) :
    DS X W (.Assign [.Tuple [.Name x px, .Name y py] kt pt] (.Tuple [a, b] k2 pt2) pos) (par2 i j fa fb) := by
  obtain ⟨ta, pa, ka⟩ := ha.ex
  obtain ⟨tb, pb, kb⟩ := hb.ex
  refine DS.mk' (ps_par hc hN hi hj hij hx hy (pa_cons pa (pa_cons pb pa_nil h2) h1) hw hs) fun σ H en D l E post => ?_
  refine ka σ H en _ l E (PostS.expr E post fun r en1 v H1 _ l1 s1 rr1 post1 => ?_)
  refine kb σ H1 en1 _ l1 s1.er (PostS.exprAt s1 post1 fun s en2 w H2 _ l2 s2 rr2 post2 => ?_)
  refine ⟨v, w, rfl, fun l3 => ?_⟩
  split at post2
  · next r' s' e1 e2 =>
    obtain ⟨q1, p1⟩ := RR.plain s2.er (RR.later s1.er rr1 s2) e1
    obtain ⟨q2, p2⟩ := RR.plain s2.er rr2 e2
    have hs' : (∃ d, s' = .v d) ∨ ∃ d, s' = .fr d := p2.imp id fun ⟨d, _, h⟩ => ⟨d, h⟩
    have hr' : (∃ d, r' = .v d) ∨ ∃ d, r' = .fr d := p1.imp id fun ⟨d, _, h⟩ => ⟨d, h⟩
    have s12 := s1.trans s2
    rcases setR_ok (i := i) (r := r') (en := en2) with ⟨en3, h3⟩ | h3
    · rw [bnd_ok h3] at post2
      have q2 := RR.setOther (RR.back s1 q2) hs' hr' h3 fun a d d' z1 z2 z3 => by
        subst z1; subst z2
        rcases p1 with ⟨_, h⟩ | ⟨d1, h, h'⟩
        · cases h
        · rcases p2 with ⟨_, g⟩ | ⟨d2, g, g'⟩
          · cases g
          · subst h; subst g
            exact RR.apart rr1 rr2 z3
      have st := s12.setR q1 h3
      rcases setR_ok (i := j) (r := s') (en := en3) with ⟨en4, h4⟩ | h4
      · rw [bnd_ok h4] at post2
        have st2 := st.setR q2 h4
        exact post2 _ H2 l3 st2
      · rw [bnd_bad h4] at post2; exact post2.elim
    · rw [bnd_bad h3] at post2; exact post2.elim
  · exact post2.elim
theorem ds_par3 (i j k : Nat) {kt k2} (hc : X.calm = true) (ha : DE X W a fa) (hb : DE X W b fb) (hcc : DE X W c fc) (hN : X.N.Nodup) (hi : X.N[i]? = some x := by rfl) (hj : X.N[j]? = some y := by rfl) (hk : X.N[k]? = some z := by rfl) (hij : i ≠ j := by decide) (hik : i ≠ k := by decide) (hjk : j ≠ k := by decide)
    (hx : X.env.scope.names.lookup x = some .local := by rfl) (hy : X.env.scope.names.lookup y = some .local := by rfl) (hz : X.env.scope.names.lookup z = some .local := by rfl)
    (hw : swappedStores [.Tuple [.Name x px, .Name y py, .Name z pz] kt pt] (.Tuple [a, b, c] k2 pt2) X.env = pure (some [x, y, z]) := by rfl)
    (hs : swapsWithSole [.Tuple [.Name x px, .Name y py, .Name z pz] kt pt] (.Tuple [a, b, c] k2 pt2) pos.line X.env = pure false := by rfl)
    (h1 : starEach [a, b, c] X.env = (false, eval a X.env) :: starEach [b, c] X.env := by rfl) (h2 : starEach [b, c] X.env = (false, eval b X.env) :: starEach [c] X.env := by rfl) (h3' : starEach [c] X.env = (false, eval c X.env) :: starEach [] X.env := by rfl) :
    DS X W (.Assign [.Tuple [.Name x px, .Name y py, .Name z pz] kt pt] (.Tuple [a, b, c] k2 pt2) pos) (par3 i j k fa fb fc) := by
  obtain ⟨ta, pa, ka⟩ := ha.ex
  obtain ⟨tb, pb, kb⟩ := hb.ex
  obtain ⟨tc, pc, kc⟩ := hcc.ex
  refine DS.mk' (ps_par3 hc hN hi hj hk hij hik hjk hx hy hz (pa_cons pa (pa_cons pb (pa_cons pc pa_nil h3') h2) h1) hw hs) fun σ H en D l E post => ?_
  refine ka σ H en _ l E (PostS.expr E post fun r en1 v H1 _ l1 s1 rr1 post1 => ?_)
  refine kb σ H1 en1 _ l1 s1.er (PostS.exprAt s1 post1 fun s en2 w H2 _ l2 s2 rr2 post2 => ?_)
  refine kc σ H2 en2 _ l2 s2.er (PostS.exprAt (s1.trans s2) post2 fun u en3 o H3 _ l3 s3 rr3 post3 => ?_)
  refine ⟨v, w, o, rfl, fun l4 => ?_⟩
  split at post3
  · next r' s' u' e1 e2 e3 =>
    have r1 := RR.later s1.er rr1 (s2.trans s3)
    have r2 := RR.later s2.er rr2 s3
    obtain ⟨q1, p1⟩ := RR.plain s3.er r1 e1
    obtain ⟨q2, p2⟩ := RR.plain s3.er r2 e2
    obtain ⟨q3, p3⟩ := RR.plain s3.er rr3 e3
    have f : ∀ {r r' : R}, ((∃ d, r' = .v d) ∨ ∃ d, r = .fr d ∧ r' = .fr d) → (∃ d, r' = .v d) ∨ ∃ d, r' = .fr d := fun p => p.imp id fun ⟨d, _, h⟩ => ⟨d, h⟩
    have ap : ∀ {σa σb σc : L2.St} {Ha Hb Hc : Hp} {ea eb ec : En} {v w : V} {r r' s s' : R}, RR X.K X.mg σa Ha ea σb Hb eb v r → RR X.K X.mg σb Hb eb σc Hc ec w s → ((∃ d, r' = .v d) ∨ ∃ d, r = .fr d ∧ r' = .fr d) → ((∃ d, s' = .v d) ∨ ∃ d, s = .fr d ∧ s' = .fr d) →
        ∀ (a : Addr) (d d' : Fw.D), r' = .fr d → s' = .fr d' → v = .ref a → w ≠ .ref a := fun x y p q a d d' z1 z2 z3 => by
      subst z1; subst z2
      rcases p with ⟨_, h⟩ | ⟨d1, h, h'⟩
      · cases h
      · rcases q with ⟨_, g⟩ | ⟨d2, g, g'⟩
        · cases g
        · subst h; subst g
          exact RR.apart x y z3
    have s13 := (s1.trans s2).trans s3
    rcases setR_ok (i := i) (r := r') (en := en3) with ⟨e4, h4⟩ | h4
    · rw [bnd_ok h4] at post3
      have q2 := RR.setOther (RR.back s1 q2) (f p2) (f p1) h4 (ap rr1 rr2 p1 p2)
      have q3 := RR.setOther (RR.back (s1.trans s2) q3) (f p3) (f p1) h4 (ap (RR.later s1.er rr1 s2) rr3 p1 p3)
      have st := s13.setR q1 h4
      rcases setR_ok (i := j) (r := s') (en := e4) with ⟨e5, h5⟩ | h5
      · rw [bnd_ok h5] at post3
        have q3 := RR.setOther q3 (f p3) (f p2) h5 (ap rr2 rr3 p2 p3)
        have st := st.setR q2 h5
        rcases setR_ok (i := k) (r := u') (en := e5) with ⟨e6, h6⟩ | h6
        · rw [bnd_ok h6] at post3
          exact post3 _ H3 l4 (st.setR q3 h6)
        · rw [bnd_bad h6] at post3; exact post3.elim
      · rw [bnd_bad h5] at post3; exact post3.elim
    · rw [bnd_bad h4] at post3; exact post3.elim
  · exact post3.elim
/-- targets of a form other than a name: a tuple of names .. -/
def asgS (g : TgF) (fe : M D) : S := M.bnd fe fun d => M.bnd (tgM (g d)) fun _ => nopS
theorem ds_asg {tg e : Expr} {g : TgF} {fe : M D} (he : DV X W e fe) (hg : DG X tg g) (hs : swapsWithSole [tg] e pos.line X.env = pure false := by rfl) (hw : swappedStores [tg] e X.env = pure none := by rfl)
    (h1 : (assignEach [tg] X.env).map (·.2) = [assign tg X.env] := by rfl) : DS X W (.Assign [tg] e pos) (asgS g fe) := by
  obtain ⟨te, pe, ke⟩ := he.ex
  obtain ⟨t, pg, kg⟩ := hg.ex
  refine DS.mk' (ps_asg pe pg hs hw h1) fun σ H en D l E post => ?_
  refine ke σ H en _ l E (PostS.expr E post fun d en1 v H1 _ l1 s1 rv post1 => ?_)
  refine kg v d σ H1 en1 _ l1 s1.er rv ?_
  cases q : g d en1 with
  | none => rw [bnd_bad (tgM_bad q)] at post1; exact post1.elim
  | some en2 =>
    rw [bnd_ok (tgM_ok q)] at post1
    exact fun σ' s2 l2 => post1 σ' H1 l2 (s1.trans s2)
end
end Fw
set_option Elab.async false
set_option linter.all false
set_option maxRecDepth 100000
set_option maxHeartbeats 4000000
namespace Fw
open PySem PySem.Spec PyProof.Rows L2

/-! ### built-in functions -/
def seqOf : D → Option (List D)
  | .lst xs => some xs
  | .tup xs => some xs
  | _ => none
def intsOf : List D → Option (List Int)
  | [] => some []
  | .int i :: ds => (intsOf ds).map (i :: ·)
  | _ :: _ => none
def boolsOf : List D → Option (List Bool)
  | [] => some []
  | .bl i :: ds => (boolsOf ds).map (i :: ·)
  | _ :: _ => none
def lenG : List D → Option R
  | [.lst xs] => some (.v (.int xs.length))
  | [.tup xs] => some (.v (.int xs.length))
  | _ => none
def absG : List D → Option R
  | [.int i] => some (.v (.int (if i < 0 then -i else i)))
  | _ => none
def intG : List D → Option R
  | [.int i] => some (.v (.int i))
  | _ => none
def min2G : List D → Option R
  | [.int i, .int j] => some (.v (.int (if j < i then j else i)))
  | _ => none
def max2G : List D → Option R
  | [.int i, .int j] => some (.v (.int (if j > i then j else i)))
  | _ => none
def listG : List D → Option R
  | [.lst xs] => some (.fr (.lst xs))
  | [.tup xs] => some (.fr (.lst xs))
  | _ => none
def tupleG : List D → Option R
  | [.lst xs] => some (.v (.tup xs))
  | [.tup xs] => some (.v (.tup xs))
  | _ => none
def sumG : List D → Option R
  | [.lst xs] => (intsOf xs).map fun ns => .v (.int ns.sum)
  | _ => none
def anyG : List D → Option R
  | [.lst xs] => (boolsOf xs).map fun ns => .v (.bl (ns.any id))
  | _ => none
def allG : List D → Option R
  | [.lst xs] => (boolsOf xs).map fun ns => .v (.bl (ns.all id))
  | _ => none
theorem intsOf_eq : ∀ {ds : List D} {ns : List Int}, intsOf ds = some ns → ds = ns.map D.int
  | [], ns, h => by cases h; rfl
  | .int i :: ds, ns, h => by
    unfold intsOf at h
    cases e : intsOf ds with
    | none => rw [e] at h; cases h
    | some ms => rw [e] at h; cases h; rw [intsOf_eq e]; rfl
  | .non :: ds, _, h | .bl _ :: ds, _, h | .str _ :: ds, _, h | .tup _ :: ds, _, h | .lst _ :: ds, _, h | .dic _ _ :: ds, _, h | .fn _ :: ds, _, h => by cases h
theorem intsOf_map (ns : List Int) : intsOf (ns.map D.int) = some ns := by
  induction ns with
  | nil => rfl
  | cons n ns ih => rw [List.map_cons, intsOf, ih]; rfl
theorem boolsOf_eq : ∀ {ds : List D} {ns : List Bool}, boolsOf ds = some ns → ds = ns.map D.bl
  | [], ns, h => by cases h; rfl
  | .bl i :: ds, ns, h => by
    unfold boolsOf at h
    cases e : boolsOf ds with
    | none => rw [e] at h; cases h
    | some ms => rw [e] at h; cases h; rw [boolsOf_eq e]; rfl
  | .non :: ds, _, h | .int _ :: ds, _, h | .str _ :: ds, _, h | .tup _ :: ds, _, h | .lst _ :: ds, _, h | .dic _ _ :: ds, _, h | .fn _ :: ds, _, h => by cases h
theorem boolsOf_map (ns : List Bool) : boolsOf (ns.map D.bl) = some ns := by
  induction ns with
  | nil => rfl
  | cons n ns ih => rw [List.map_cons, boolsOf, ih]; rfl
theorem DrL.bools {K : PySem.W.Frag} {mg : Str → Option Value} {H : Hp} : ∀ {vs : List V} {ns : List Bool}, DrL K mg H vs (ns.map D.bl) → vs = ns.map V.bl
  | [], [], _ => rfl
  | [], _ :: _, h => by cases h
  | _ :: _, [], h => by cases h
  | v :: vs, n :: ns, h => by
    cases h with
    | cons r t => cases r; rw [DrL.bools t]; rfl
section
variable {X : Cx}
theorem rb1 {H : Hp} {xs : List V} {d : D} (h : RbL X H xs [d]) : ∃ x, xs = [x] ∧ Rd' X H x d := by
  cases h with
  | cons r t => cases t; exact ⟨_, rfl, r⟩
theorem rb2 {H : Hp} {xs : List V} {d e : D} (h : RbL X H xs [d, e]) : ∃ x y, xs = [x, y] ∧ Rd' X H x d ∧ Rd' X H y e := by
  cases h with
  | cons r t => obtain ⟨y, rfl, r2⟩ := rb1 t; exact ⟨_, _, rfl, r, r2⟩
theorem cd_len : CallD X (.builtin "len") lenG := ⟨_, call_len_seq, fun H xs ds Q l h p => by
  unfold lenG at p
  split at p
  · next zs =>
    obtain ⟨x, rfl, r⟩ := rb1 h
    obtain ⟨a, ys, rfl, q, t⟩ := Rb.lst r
    exact ⟨a, ys, rfl, .inl q, by rw [t.length]; exact p _ H (Same.refl H) (.int _)⟩
  · next zs =>
    obtain ⟨x, rfl, r⟩ := rb1 h
    obtain ⟨a, ys, rfl, q, t⟩ := Rb.tup r
    exact ⟨a, ys, rfl, .inr q, by rw [t.length]; exact p _ H (Same.refl H) (.int _)⟩
  · exact p.elim⟩
theorem cd_abs : CallD X (.builtin "abs") absG := ⟨_, call_abs, fun H xs ds Q l h p => by
  unfold absG at p
  split at p
  · next i =>
    obtain ⟨x, rfl, r⟩ := rb1 h
    exact ⟨i, by rw [Rb.int r], p _ H (Same.refl H) (.int _)⟩
  · exact p.elim⟩
theorem cd_int : CallD X (.type "int") intG := ⟨_, call_int1, fun H xs ds Q l h p => by
  unfold intG at p
  split at p
  · next i =>
    obtain ⟨x, rfl, r⟩ := rb1 h
    exact .inl ⟨i, by rw [Rb.int r], p _ H (Same.refl H) (.int _)⟩
  · exact p.elim⟩
theorem cd_min2 (hc : X.calm = true) : CallD X (.builtin "min") min2G := ⟨_, call_min2 hc, fun H xs ds Q l h p => by
  unfold min2G at p
  split at p
  · next i j =>
    obtain ⟨x, y, rfl, r, r2⟩ := rb2 h
    exact ⟨i, j, by rw [Rb.int r, Rb.int r2], p _ H (Same.refl H) (.int _)⟩
  · exact p.elim⟩
theorem cd_max2 (hc : X.calm = true) : CallD X (.builtin "max") max2G := ⟨_, call_max2 hc, fun H xs ds Q l h p => by
  unfold max2G at p
  split at p
  · next i j =>
    obtain ⟨x, y, rfl, r, r2⟩ := rb2 h
    exact ⟨i, j, by rw [Rb.int r, Rb.int r2], p _ H (Same.refl H) (.int _)⟩
  · exact p.elim⟩
theorem cd_list : CallD X (.type "list") listG := ⟨_, call_list_of, fun H xs ds Q l h p => by
  unfold listG at p
  split at p
  · next zs =>
    obtain ⟨x, rfl, r⟩ := rb1 h
    obtain ⟨a, ys, rfl, q, t⟩ := Rb.lst r
    exact ⟨a, ys, rfl, .inl q, fun l' hl => p l' _ (same_new hl) hl (fr_new hl t)⟩
  · next zs =>
    obtain ⟨x, rfl, r⟩ := rb1 h
    obtain ⟨a, ys, rfl, q, t⟩ := Rb.tup r
    exact ⟨a, ys, rfl, .inr q, fun l' hl => p l' _ (same_new hl) hl (fr_new hl t)⟩
  · exact p.elim⟩
theorem dr_newT {H : Hp} {a : Addr} {xs : List V} {ds : List D} (ha : H a = none) (t : DrL X.K X.mg H xs ds) : Dr X.K X.mg (upd H a (.tup xs)) (.ref a) (.tup ds) :=
  .tup (.inl (.inl upd_same)) (t.mo (Mo.same (same_new ha)))
theorem cd_tuple : CallD X (.type "tuple") tupleG := ⟨_, call_tuple_of, fun H xs ds Q l h p => by
  unfold tupleG at p
  split at p
  · next zs =>
    obtain ⟨x, rfl, r⟩ := rb1 h
    obtain ⟨a, ys, rfl, q, t⟩ := Rb.lst r
    exact ⟨a, ys, rfl, .inl ⟨q, fun l' hl => p _ _ (same_new hl) (dr_newT hl t)⟩⟩
  · next zs =>
    obtain ⟨x, rfl, r⟩ := rb1 h
    obtain ⟨a, ys, rfl, q, t⟩ := Rb.tup r
    exact ⟨a, ys, rfl, .inr ⟨q, p _ H (Same.refl H) (.tup q t)⟩⟩
  · exact p.elim⟩
theorem cd_sum (hc : X.calm = true) : CallD X (.builtin "sum") sumG := ⟨_, cr_sum hc, fun H xs ds Q l h p => by
  unfold sumG at p
  split at p
  · next zs =>
    obtain ⟨x, rfl, r⟩ := rb1 h
    obtain ⟨a, ys, rfl, q, t⟩ := Rb.lst r
    cases e : intsOf zs with
    | none => rw [e] at p; exact p.elim
    | some ns =>
      rw [e] at p
      rw [intsOf_eq e] at t
      exact ⟨a, ns, rfl, by rw [← t.ints]; exact q, p _ H (Same.refl H) (.int _)⟩
  · exact p.elim⟩
theorem cd_any (hc : X.calm = true) : CallD X (.builtin "any") anyG := ⟨_, cr_any hc, fun H xs ds Q l h p => by
  unfold anyG at p
  split at p
  · next zs =>
    obtain ⟨x, rfl, r⟩ := rb1 h
    obtain ⟨a, ys, rfl, q, t⟩ := Rb.lst r
    cases e : boolsOf zs with
    | none => rw [e] at p; exact p.elim
    | some ns =>
      rw [e] at p
      rw [boolsOf_eq e] at t
      exact ⟨a, ns, rfl, by rw [← t.bools]; exact q, p _ H (Same.refl H) (.bl _)⟩
  · exact p.elim⟩
theorem cd_all (hc : X.calm = true) : CallD X (.builtin "all") allG := ⟨_, cr_all hc, fun H xs ds Q l h p => by
  unfold allG at p
  split at p
  · next zs =>
    obtain ⟨x, rfl, r⟩ := rb1 h
    obtain ⟨a, ys, rfl, q, t⟩ := Rb.lst r
    cases e : boolsOf zs with
    | none => rw [e] at p; exact p.elim
    | some ns =>
      rw [e] at p
      rw [boolsOf_eq e] at t
      exact ⟨a, ns, rfl, by rw [← t.bools]; exact q, p _ H (Same.refl H) (.bl _)⟩
  · exact p.elim⟩
end

/-! ### isinstance -/
def tyOf : D → Option String
  | .non => some "NoneType"
  | .bl _ => some "bool"
  | .int _ => some "int"
  | .str _ => some "str"
  | .tup _ => some "tuple"
  | .lst _ => some "list"
  | _ => none
def isaM (T : String) (a : M R) : M R := M.bnd a fun r en => match peek en r with
  | some d => (match tyOf d with
    | some t => (match kitB t T with
      | some b => .ok (.v (.bl b)) en
      | none => .bad)
    | none => .bad)
  | none => .bad
section
variable {X : Cx} {W : WX} {a : Expr} {fa : M R} {pos p p2 : Pos} {x : Str} {T : String}
theorem dr_ty {H : Hp} {v : V} {d : D} {t : String} (h : Rd' X H v d) (e : tyOf d = some t) : TyX X.K H v (.type t) := by
  rcases h with h | ⟨a, rfl, m⟩
  · cases h with
    | non => cases e; exact .base .non
    | bl b => cases e; exact .base (.bl b)
    | int i => cases e; exact .base (.int i)
    | str s => cases e; exact .base (.str s)
    | tup q _ =>
      cases e
      rcases q with (q | ⟨o, q⟩) | ⟨o, its, n, h1, h2, _⟩
      · exact .base (.tup q)
      · exact .fTuple q
      · exact .kTuple h1 h2
    | lst q _ =>
      cases e
      rcases q with ⟨o, q⟩ | ⟨o, its, n, h1, h2, _⟩
      · exact .base (.frz q)
      · exact .kList h1 h2
    | dic _ _ _ => cases e
    | dit _ _ _ => cases e
    | fn _ => cases e
  · cases d with
    | lst ds =>
      obtain ⟨xs, q, _⟩ := m
      cases e
      exact .base (.lst q)
    | dic _ _ => cases e
    | fn _ => cases e
    | _ => exact m.elim
theorem de_isa (ha : DE X W a fa) (hg : Gl X "isinstance") (hm : X.mg "isinstance" = none) (hgT : Gl X x) (hmT : X.mg x = none) (hvT : bootBuiltins x = some (.type T)) (hn : x ≠ "__name__" := by decide) (hd : (x == ("__debug__" : Str)) = false := by decide)
    (hs : starEach [a, .Name x p2] X.env = (false, eval a X.env) :: starEach [.Name x p2] X.env := by rfl) (hs2 : starEach [.Name x p2] X.env = (false, eval (.Name x p2) X.env) :: starEach [] X.env := by rfl)
    (hpl : (backTo pos (starEach [.Name x p2] X.env)).any (·.1) = false := by rfl) (hv : bootBuiltins "isinstance" = some (.builtin "isinstance") := by first | rfl | decide +kernel) : DE X W (.Call (.Name "isinstance" p) [a, .Name x p2] [] pos) (isaM T fa) := by
  obtain ⟨ta, pa, ka⟩ := ha.ex
  refine DE.mk' (pe_callB call_isi hg hm hv (pa_cons pa (pa_cons (pe_bltn hgT hmT hvT (show RelV (.ty T) (.type T) from rfl) hn hd) pa_nil hs2) hs) (by decide) (by decide) hs hpl) fun σ H en Q l E post => ?_
  refine ka σ H en _ l E (PostG.bindAt (Stp.refl E) post fun r1 en1 v1 H1 _ l1 s1 rr1 post1 => ?_)
  split at post1
  · next d pk =>
    split at post1
    · next t ht =>
      split at post1
      · next b hb => exact ⟨v1, .ty T, .type t, .type T, b, rfl, .ty T, dr_ty (Rb.peek s1.er rr1 pk) ht, kit_ty hb, fun l2 => post1 _ H1 l2 s1 (.bl b)⟩
      · exact post1.elim
    · exact post1.elim
  · exact post1.elim
end
end Fw
set_option Elab.async false
set_option linter.all false
set_option maxRecDepth 100000
set_option maxHeartbeats 4000000
namespace Fw
open PySem PySem.Spec PyProof.Rows L2

/-! ### sorted, min, max of data -/
def sameKind (ds : List D) : Bool := ds.all fun d => d.fit 48 && ds.all fun e => PySem.W.alike d.py e.py
def isTupN : D → Bool
  | .tup (_ :: _) => true
  | _ => false
def noTup : D → Bool
  | .tup _ => false
  | .non => false
  | _ => true
def leD : D → D → Bool := PySem.W.dataLe false D.py
def sortG : List D → Option R
  | [.lst ds] => if sameKind ds && (ds.all isTupN || ds.all noTup) then some (.fr (.lst (ds.mergeSort leD))) else none
  | _ => none
def minDD (x : D) (xs : List D) : D := xs.foldl (fun a y => if PySem.W.dataLt y.py a.py then y else a) x
def maxDD (x : D) (xs : List D) : D := xs.foldl (fun a y => if PySem.W.dataLt a.py y.py then y else a) x
def isNonD : D → Bool
  | .non => true
  | _ => false
def minG : List D → Option R
  | [d] => (seqOf d).bind fun ds => match ds with
    | x :: xs => if sameKind ds && !(ds.any isNonD) then some (.v (minDD x xs)) else none
    | [] => none
  | _ => none
def maxG : List D → Option R
  | [d] => (seqOf d).bind fun ds => match ds with
    | x :: xs => if sameKind ds && !(ds.any isNonD) then some (.v (maxDD x xs)) else none
    | [] => none
  | _ => none
section
variable {X : Cx} {pins : List (Addr × Obj)} {σ : L2.St} {H : Hp} {s : Shared}
mutual
theorem py_inj : ∀ (n m : Nat) (d e : D), d.fit n = true → e.fit m = true → d.py = e.py → d = e
  | n, m, .non, e, _, he, h => by cases e <;> simp_all [D.py, D.fit]
  | n, m, .bl a, e, _, he, h => by cases e <;> simp_all [D.py, D.fit]
  | n, m, .int a, e, _, he, h => by cases e <;> simp_all [D.py, D.fit]
  | n, m, .str a, e, _, he, h => by cases e <;> simp_all [D.py, D.fit]
  | 0, m, .tup xs, e, h, _, _ => by simp [D.fit] at h
  | n + 1, m, .tup xs, e, hd, he, h => by
    cases e with
    | tup ys =>
      cases m with
      | zero => simp [D.fit] at he
      | succ m =>
        simp only [D.py, PyData.tuple.injEq] at h
        simp only [D.fit, List.all_eq_true] at hd he
        rw [pyL_inj n m xs ys hd he h]
    | _ => simp_all [D.py, D.fit]
  | 0, m, .lst xs, e, h, _, _ => by simp [D.fit] at h
  | n + 1, m, .lst xs, e, hd, he, h => by
    cases e with
    | lst ys =>
      cases m with
      | zero => simp [D.fit] at he
      | succ m =>
        simp only [D.py, PyData.list.injEq] at h
        simp only [D.fit, List.all_eq_true] at hd he
        rw [pyL_inj n m xs ys hd he h]
    | _ => simp_all [D.py, D.fit]
  | n, m, .dic _ _, e, h, _, _ => by simp [D.fit] at h
  | n, m, .fn _, e, h, _, _ => by simp [D.fit] at h
theorem pyL_inj : ∀ (n m : Nat) (ds es : List D), (∀ d ∈ ds, d.fit n = true) → (∀ e ∈ es, e.fit m = true) → D.pyL ds = D.pyL es → ds = es
  | n, m, [], [], _, _, _ => rfl
  | n, m, [], _ :: _, _, _, h => by simp [D.pyL] at h
  | n, m, _ :: _, [], _, _, h => by simp [D.pyL] at h
  | n, m, d :: ds, e :: es, hd, he, h => by
    simp only [D.pyL, List.cons.injEq] at h
    rw [py_inj n m d e (hd d (by simp)) (he e (by simp)) h.1, pyL_inj n m ds es (fun x hx => hd x (by simp [hx])) (fun x hx => he x (by simp [hx])) h.2]
end
theorem same_fit {ds : List D} (h : sameKind ds = true) : ∀ d ∈ ds, d.fit 48 = true := fun d hd => by
  have := List.all_eq_true.mp h d hd
  rw [Bool.and_eq_true] at this
  exact this.1
theorem same_alike {ds : List D} (h : sameKind ds = true) : ∀ d ∈ ds, ∀ e ∈ ds, PySem.W.alike d.py e.py = true := fun d hd e he => by
  have := List.all_eq_true.mp h d hd
  rw [Bool.and_eq_true] at this
  exact List.all_eq_true.mp this.2 e he
/-- a machine value that stands for d -/
def Stands (K : PySem.W.Frag) (mg : Str → Option Value) (H : Hp) (v : Value) (d : D) : Prop := ∃ x : V, RelV x v ∧ Dr K mg H x d
theorem stands_of : ∀ {xs : List V} {us : List Value} {ds : List D}, Vals xs us → DrL X.K X.mg H xs ds → PySem.W.EachIs (Stands X.K X.mg H) us ds
  | _, _, _, .nil, .nil => .nil
  | _, _, _, .cons r t, .cons d e => .cons ⟨_, r, d⟩ (stands_of t e)
theorem of_stands : ∀ {us : List Value} {ds : List D}, PySem.W.EachIs (Stands X.K X.mg H) us ds → ∃ xs, Vals xs us ∧ DrL X.K X.mg H xs ds
  | _, _, .nil => ⟨[], .nil, .nil⟩
  | _, _, .cons ⟨x, r, d⟩ t => by
    obtain ⟨xs, p, q⟩ := of_stands t
    exact ⟨x :: xs, .cons r p, .cons d q⟩
theorem each_reads (I : Inv X pins σ H s) : ∀ {us : List Value} {ds : List D}, PySem.W.EachIs (Stands X.K X.mg H) us ds → (∀ d ∈ ds, d.fit 48 = true) → PySem.W.EachIs (fun v b => ∃ as, Reads s.heap v (D.py b) as) us ds
  | _, _, .nil, _ => .nil
  | _, _, .cons ⟨x, r, d⟩ t, h => .cons (Rb.reads I (.inl d) (h _ (by simp)) r) (each_reads I t fun e he => h e (by simp [he]))
theorem cd_sorted (hu : X.A.units + 64 < cLine) : CallD X (.builtin "sorted") sortG := by
  refine ⟨fun vs H Q => ∃ (a : Addr) (xs : List V) (ds : List D), vs = [V.ref a] ∧ SqL X.K H a xs ∧ DrL X.K X.mg H xs ds ∧ sameKind ds = true ∧ (ds.all isTupN || ds.all noTup) = true ∧ ∀ p ys, H p = none → DrL X.K X.mg H ys (ds.mergeSort leD) → Q (.ref p) (upd H p (.lst ys)), ?_, fun H xs ds Q l h p => ?_⟩
  · intro pins s σ H vs us Q I r h
    obtain ⟨a, xs, ds, rfl, hs, t, sk, kd, q⟩ := h
    obtain ⟨its, rv, hl, hz⟩ := I.list hs
    rw [Vals.ref1 r]
    have st := stands_of (X := X) rv t
    refine PySem.W.sorted_data (bs := ds) (enc := D.py) hl.isList st (each_reads I st (same_fit sk)) ?_ ?_ (by rw [← t.length]; exact hz) (fun b hb => ?_) fun out ho eo => ?_
    · intro d hd d' hd'
      obtain ⟨b, hb, rfl⟩ := List.mem_map.mp hd
      obtain ⟨b', hb', rfl⟩ := List.mem_map.mp hd'
      exact same_alike sk b hb b' hb'
    · rw [Bool.or_eq_true] at kd
      rcases kd with kd | kd
      · refine .inl fun d hd => ?_
        obtain ⟨b, hb, rfl⟩ := List.mem_map.mp hd
        have := List.all_eq_true.mp kd b hb
        cases b with
        | tup zs =>
          cases zs with
          | nil => cases this
          | cons z zs => exact ⟨z.py, D.pyL zs, by simp [D.py, D.pyL]⟩
        | _ => cases this
      · refine .inr fun d hd => ?_
        obtain ⟨b, hb, rfl⟩ := List.mem_map.mp hd
        have := List.all_eq_true.mp kd b hb
        cases b <;> first | (cases this; done) | (constructor <;> intros <;> simp [D.py])
    · have := (lay_py 48 b (same_fit sk b hb)).2
      show X.A.units + 2 + _ < _
      omega
    · obtain ⟨ys, v1, d1⟩ := of_stands eo
      obtain ⟨ep, he'⟩ := PyProof.Rows.sortedAll_at s.heap its out.toArray
      have hlen : ys.length ≤ sizeLine := by rw [v1.length, ho, ← t.length]; exact hz
      exact ⟨.ref _, upd H (s.heap.objs.size + 1) (.lst ys), I.laid (t' := s.toks) (fun _ _ => PyProof.Rows.sortedAll_old) (Nat.le_succ _) ⟨hlen, out, ep, v1, he'⟩, rfl, q _ _ (I.hok.fresh (Nat.le_succ _)) d1⟩
  · unfold sortG at p
    split at p
    · next zs =>
      obtain ⟨x, rfl, r⟩ := rb1 h
      obtain ⟨a, ys, rfl, q, t⟩ := Rb.lst r
      split at p
      · next c =>
        rw [Bool.and_eq_true] at c
        exact ⟨a, ys, zs, rfl, q, t, c.1, c.2, fun p' ys' hp t' => p p' _ (same_new hp) hp (fr_new hp t')⟩
      · exact p.elim
    · exact p.elim
theorem minD_py (x : D) (xs : List D) : PySem.W.minD x.py (D.pyL xs) = (minDD x xs).py := by
  unfold PySem.W.minD minDD
  induction xs generalizing x with
  | nil => rfl
  | cons y ys ih => simp only [D.pyL, List.foldl_cons]; rw [← ih]; split <;> rfl
theorem maxD_py (x : D) (xs : List D) : PySem.W.maxD x.py (D.pyL xs) = (maxDD x xs).py := by
  unfold PySem.W.maxD maxDD
  induction xs generalizing x with
  | nil => rfl
  | cons y ys ih => simp only [D.pyL, List.foldl_cons]; rw [← ih]; split <;> rfl
theorem minDD_mem (x : D) (xs : List D) : minDD x xs ∈ x :: xs := by
  unfold minDD
  induction xs generalizing x with
  | nil => simp
  | cons y ys ih =>
    simp only [List.foldl_cons]
    split
    · exact List.mem_cons_of_mem _ (ih y)
    · have := ih x
      rcases List.mem_cons.mp this with h | h
      · rw [h]; exact List.mem_cons_self
      · exact List.mem_cons_of_mem _ (List.mem_cons_of_mem _ h)
theorem maxDD_mem (x : D) (xs : List D) : maxDD x xs ∈ x :: xs := by
  unfold maxDD
  induction xs generalizing x with
  | nil => simp
  | cons y ys ih =>
    simp only [List.foldl_cons]
    split
    · exact List.mem_cons_of_mem _ (ih y)
    · have := ih x
      rcases List.mem_cons.mp this with h | h
      · rw [h]; exact List.mem_cons_self
      · exact List.mem_cons_of_mem _ (List.mem_cons_of_mem _ h)
theorem pyL_mem {ds : List D} {x : PyData} (h : x ∈ D.pyL ds) : ∃ d ∈ ds, d.py = x := by
  rw [pyL_map] at h
  obtain ⟨d, hd, e⟩ := List.mem_map.mp h
  exact ⟨d, hd, e⟩
theorem alikeAll_of {ds : List D} (sk : sameKind ds = true) (nn : ds.any isNonD = false) : PySem.W.AlikeAll (D.pyL ds) := by
  refine ⟨fun x hx y hy => ?_, fun x hx => ?_⟩
  · obtain ⟨d, hd, rfl⟩ := pyL_mem hx
    obtain ⟨e, he, rfl⟩ := pyL_mem hy
    exact same_alike sk d hd e he
  · obtain ⟨d, hd, rfl⟩ := pyL_mem hx
    have := List.any_eq_false.mp nn d hd
    cases d <;> first | (exact absurd rfl this) | (intro z; cases z)
/-- the value that is picked -/
theorem picked (I : Inv X pins σ H s) {xs : List V} {its : List Value} {ds : List D} {m : D} {i : Nat} {v : Value} {h' : Heap} {bs : List Addr} (rv : Vals xs its) (t : DrL X.K X.mg H xs ds) (ft : ∀ d ∈ ds, d.fit 48 = true) (hm : m ∈ ds)
    (hv0 : its.toArray[i]? = some v) (rd : Reads h' v m.py bs) (hk : ∀ b o, s.heap.get? b = some o → h'.get? b = some o) : ∃ x, RelV x v ∧ Dr X.K X.mg H x m := by
  have hv : its[i]? = some v := by rw [← hv0]; simp
  obtain ⟨x, hx, rx⟩ : ∃ x, xs[i]? = some x ∧ RelV x v := by
    clear t hm hv0
    induction rv generalizing i with
    | nil => simp at hv
    | cons r t ih =>
      cases i with
      | zero => simp at hv; subst hv; exact ⟨_, rfl, r⟩
      | succ i => simp at hv; obtain ⟨x, h1, h2⟩ := ih hv; exact ⟨x, by simpa using h1, h2⟩
  obtain ⟨d, hd, rd'⟩ := t.getV hx
  have hmem := List.mem_of_getElem? hd
  obtain ⟨as, r1⟩ := Rb.reads I (.inl rd') (ft d hmem) rx
  have r2 := PyProof.Rows.Reads.keeps hk r1
  have := PySem.SeqAt.readOf_plain (fit_plain (ft d hmem)) r2
  have t2 := PySem.SeqAt.readOf_plain (fit_plain (ft m hm)) rd
  have e := py_inj 48 48 d m (ft d hmem) (ft m hm) (by rw [← this, t2])
  subst e
  exact ⟨x, rx, rd'⟩
def rPick (X : Cx) (f : D → List D → D) : List V → Hp → VK → Prop := fun vs H Q => ∃ (a : Addr) (xs : List V) (d : D) (ds : List D), vs = [V.ref a] ∧ (SqL X.K H a xs ∨ SqT X.K H a xs) ∧ DrL X.K X.mg H xs (d :: ds) ∧ sameKind (d :: ds) = true ∧ (d :: ds).any isNonD = false ∧ ∀ v, Dr X.K X.mg H v (f d ds) → Q v H
theorem cr_minD (hc : X.calm = true) (hu : X.A.units + 64 < cLine) : CallR X (.builtin "min") (rPick X minDD) := by
  intro pins s σ H vs us Q I r h
  obtain ⟨a, xs, d, ds, rfl, hs, t, sk, nn, q⟩ := h
  rw [Vals.ref1 r]
  have ft := same_fit sk
  have hdep := (layL_py 48 (d :: ds) ft).2
  rcases hs with hs | hs
  · obtain ⟨its, rv, hl, hz⟩ := I.list hs
    obtain ⟨as, ra⟩ := Dp.readsAll I (D.pyL (d :: ds)) xs its (DrL.dp 48 xs _ t ft) rv
    refine PySem.W.min_list_data (I.ok.hd hc) hl.isList (by simpa [D.pyL] using ra) (by simpa [D.pyL] using alikeAll_of sk nn) (by simp only [D.pyL] at hdep; omega) fun i v h' tk bs hv rd hk => ?_
    rw [minD_py] at rd
    obtain ⟨x, rx, dx⟩ := picked I rv t ft (minDD_mem d ds) hv rd hk
    exact ⟨x, H, I.kept hk, rx, q x dx⟩
  · obtain ⟨its, rv, hl, hz⟩ := I.tuple hs
    obtain ⟨as, ra⟩ := Dp.readsAll I (D.pyL (d :: ds)) xs its (DrL.dp 48 xs _ t ft) rv
    refine PySem.W.min_tuple_data (vs := its.toArray) (I.ok.hd hc) hl (by simpa [D.pyL] using ra) (by simpa [D.pyL] using alikeAll_of sk nn) (by simp only [D.pyL] at hdep; omega) fun i v h' tk bs hv rd hk => ?_
    rw [minD_py] at rd
    obtain ⟨x, rx, dx⟩ := picked I rv t ft (minDD_mem d ds) hv rd hk
    exact ⟨x, H, I.kept hk, rx, q x dx⟩
theorem cr_maxD (hc : X.calm = true) (hu : X.A.units + 64 < cLine) : CallR X (.builtin "max") (rPick X maxDD) := by
  intro pins s σ H vs us Q I r h
  obtain ⟨a, xs, d, ds, rfl, hs, t, sk, nn, q⟩ := h
  rw [Vals.ref1 r]
  have ft := same_fit sk
  have hdep := (layL_py 48 (d :: ds) ft).2
  rcases hs with hs | hs
  · obtain ⟨its, rv, hl, hz⟩ := I.list hs
    obtain ⟨as, ra⟩ := Dp.readsAll I (D.pyL (d :: ds)) xs its (DrL.dp 48 xs _ t ft) rv
    refine PySem.W.max_list_data (I.ok.hd hc) hl.isList (by simpa [D.pyL] using ra) (by simpa [D.pyL] using alikeAll_of sk nn) (by simp only [D.pyL] at hdep; omega) fun i v h' tk bs hv rd hk => ?_
    rw [maxD_py] at rd
    obtain ⟨x, rx, dx⟩ := picked I rv t ft (maxDD_mem d ds) hv rd hk
    exact ⟨x, H, I.kept hk, rx, q x dx⟩
  · obtain ⟨its, rv, hl, hz⟩ := I.tuple hs
    obtain ⟨as, ra⟩ := Dp.readsAll I (D.pyL (d :: ds)) xs its (DrL.dp 48 xs _ t ft) rv
    refine PySem.W.max_tuple_data (vs := its.toArray) (I.ok.hd hc) hl (by simpa [D.pyL] using ra) (by simpa [D.pyL] using alikeAll_of sk nn) (by simp only [D.pyL] at hdep; omega) fun i v h' tk bs hv rd hk => ?_
    rw [maxD_py] at rd
    obtain ⟨x, rx, dx⟩ := picked I rv t ft (maxDD_mem d ds) hv rd hk
    exact ⟨x, H, I.kept hk, rx, q x dx⟩
theorem pick_says {f : D → List D → D} {g : List D → Option R} (hg : ∀ d o, g [d] = some o → ∃ x xs, seqOf d = some (x :: xs) ∧ sameKind (x :: xs) = true ∧ (x :: xs).any isNonD = false ∧ o = .v (f x xs)) (h0 : ∀ ds o, g ds = some o → ∃ d, ds = [d]) {H : Hp} {vs : List V} {ds : List D} {Q : VK} (h : RbL X H vs ds) (p : PostO X H (g ds) Q) : rPick X f vs H Q := by
  cases e : g ds with
  | none => rw [e] at p; exact p.elim
  | some o =>
    obtain ⟨d, rfl⟩ := h0 ds o e
    obtain ⟨x, xs, h1, h2, h3, rfl⟩ := hg d o e
    rw [e] at p
    obtain ⟨v, rfl, r⟩ := rb1 h
    cases d with
    | lst zs =>
      cases h1
      obtain ⟨a, ys, rfl, q, t⟩ := Rb.lst r
      exact ⟨a, ys, x, xs, rfl, .inl q, t, h2, h3, fun v' dv => p v' H (Same.refl H) dv⟩
    | tup zs =>
      cases h1
      obtain ⟨a, ys, rfl, q, t⟩ := Rb.tup r
      exact ⟨a, ys, x, xs, rfl, .inr q, t, h2, h3, fun v' dv => p v' H (Same.refl H) dv⟩
    | _ => cases h1
theorem cd_min (hc : X.calm = true) (hu : X.A.units + 64 < cLine) : CallD X (.builtin "min") minG := ⟨_, cr_minD hc hu, fun H xs ds Q l h p => pick_says (f := minDD) (g := minG) (fun d o e => by
    unfold minG at e
    simp only at e
    cases q : seqOf d with
    | none => rw [q] at e; cases e
    | some zs =>
      rw [q] at e
      simp only [Option.bind] at e
      cases zs with
      | nil => cases e
      | cons x xs =>
        simp only at e
        split at e
        · next c => cases e; rw [Bool.and_eq_true, Bool.not_eq_true'] at c; exact ⟨x, xs, rfl, c.1, c.2, rfl⟩
        · cases e) (fun ds o e => by
    unfold minG at e
    split at e
    · exact ⟨_, rfl⟩
    · cases e) h p⟩
theorem cd_max (hc : X.calm = true) (hu : X.A.units + 64 < cLine) : CallD X (.builtin "max") maxG := ⟨_, cr_maxD hc hu, fun H xs ds Q l h p => pick_says (f := maxDD) (g := maxG) (fun d o e => by
    unfold maxG at e
    simp only at e
    cases q : seqOf d with
    | none => rw [q] at e; cases e
    | some zs =>
      rw [q] at e
      simp only [Option.bind] at e
      cases zs with
      | nil => cases e
      | cons x xs =>
        simp only at e
        split at e
        · next c => cases e; rw [Bool.and_eq_true, Bool.not_eq_true'] at c; exact ⟨x, xs, rfl, c.1, c.2, rfl⟩
        · cases e) (fun ds o e => by
    unfold maxG at e
    split at e
    · exact ⟨_, rfl⟩
    · cases e) h p⟩
end
end Fw
set_option Elab.async false
set_option linter.all false
set_option maxRecDepth 100000
set_option maxHeartbeats 4000000

/-! ### enumerate(tuple) -/
namespace Fw
open PySem PySem.Spec PyProof.Rows L2
set_option maxHeartbeats 1000000 in
theorem meets_en1 {v : Value} {o : Obj} {P : Heap → Prop} (B : PySem.Begins v o P) :
    Meets (Builtin.«enumerate.__new__» ⟨[.type "enumerate", v], []⟩) (fun _ R s => P s.heap ∧
      R (.ok (.ret (.ref (s.heap.push o).objs.size))) { s with heap := (s.heap.push o).push { cls := .type "enumerate", data := .fields #[.none, .bool false, .ref s.heap.objs.size, rawInt 0, .none, .none] } }) :=
  .of_wp fun prog w A R s h => by
    obtain ⟨hp, g, d, tk, os⟩ := s; obtain ⟨h1, h⟩ := h
    have hsub := sub_enumerate
    have begun : ∀ {A' : Around} {E : Value → Shared → Prop} {Q : Value → Shared → Prop}, Q (.ref hp.objs.size) ⟨hp.push o, g, d, tk, os⟩ → wpAny (model prog w) A' (pyIter v) Q E ⟨hp, g, d, tk, os⟩ := fun q => B.iter prog w _ _ ⟨hp, g, d, tk, os⟩ _ h1 q
    wp_walk
    refine wpAny_stack_any fun st => wpAny_pure ?_
    split
    · rename_i c _ _ _ _ _
      cases (c == Value.type "enumerate")
      · wp_walk using begun
        exact ⟨_, rfl, h⟩
      · wp_walk using begun
        exact ⟨_, rfl, h⟩
    · wp_walk using begun
      exact ⟨_, rfl, h⟩
theorem en1_begins {prog : Program} {w : World} {A : Around} {E : Value → Shared → Prop} {s : Shared} {v : Value} {o : Obj} {P : Heap → Prop} {Q : Value → Shared → Prop} (B : PySem.Begins v o P) (h1 : P s.heap)
    (h : ∀ h', IsEnum h' (s.heap.objs.size + 1) s.heap.objs.size 0 .none → h'.get? s.heap.objs.size = some o → (∀ b ob, s.heap.get? b = some ob → h'.get? b = some ob) → Q (.ref (s.heap.objs.size + 1)) { s with heap := h' }) :
    wpAny (model prog w) A (call (.type "enumerate") [v]) Q E s := by
  refine callType_new F.called_enumerate (by decide) (F.typeCall_enumerate_1 _) (F.newCall_enumerate_1 _) (fun obj => F.args_object_init_2 obj _) F.entry_enumerate_new (meets_en1 B) ⟨h1, ?_⟩
  have hz : (s.heap.push o).objs.size = s.heap.objs.size + 1 := Heap.size_push ..
  show _ ∧ _
  rw [hz]
  have he : IsEnum ((s.heap.push o).push { cls := .type "enumerate", data := .fields #[.none, .bool false, .ref s.heap.objs.size, rawInt 0, .none, .none] }) (s.heap.objs.size + 1) s.heap.objs.size 0 .none := by
    have q := Heap.get?_push_size (s.heap.push o) (o := { cls := .type "enumerate", data := .fields #[.none, .bool false, .ref s.heap.objs.size, rawInt 0, .none, .none] }) rfl
    rw [hz] at q; exact q
  exact ⟨⟨_, he, rfl⟩, h _ he (Heap.get?_push_of_some _ (Heap.get?_push_size _ B.free)) fun b ob x => Heap.get?_push_of_some _ (Heap.get?_push_of_some _ x)⟩
/-- the tuple at a, each item in a new pair -/
def IteT (K : PySem.W.Frag) (a : Addr) : It :=
  ⟨fun i H => ∃ (xs : List V) (x : V), SqT K H a xs ∧ xs[i]? = some x, fun i H v H' => ∃ T x, v = .ref T ∧ H T = none ∧ H' = upd H T (.tup [.int (i : Nat), x]) ∧ ∀ xs, SqT K H a xs → xs[i]? = some x, fun i H => ∃ xs : List V, SqT K H a xs ∧ i = xs.length⟩
theorem tuple_iter_ne {h : Heap} {it a : Addr} {i : Nat} {items : Array Value} (x : h.IsTupleIter it a i) (y : h.IsTuple a items) : a ≠ it := by
  rintro rfl
  obtain ⟨o, ho, hc, _⟩ := x
  obtain ⟨o2, ho2, hc2, _⟩ := y
  rw [ho] at ho2; cases ho2
  rw [hc] at hc2
  exact absurd hc2 (by decide)
theorem turn_enumT {P : Program} {w : World} {K : PySem.W.Frag} {elts : List Expr} {kk : Nat} {tpos : Pos} (a e it : Addr) :
    Turn P w K (.Tuple elts kk tpos) (IteT K a) [e, it] e (fun i h => (∃ old, IsEnum h e it ((i : Nat) : Int) old) ∧ h.IsTupleIter it a i ∧ e ≠ it) where
  mem := by simp
  obj := fun i h st b hb => by
    obtain ⟨⟨old, he⟩, ⟨o, ho, hc, hd⟩, _⟩ := st
    have e' : b = e ∨ b = it := by simpa using hb
    rcases e' with z | z
    · rw [z]; exact ⟨_, he, fun v q => nomatch q⟩
    · rw [z]; exact ⟨o, ho, fun v q => by rw [hd] at q; cases q⟩
  keep := fun i h h' st k => let ⟨⟨old, he⟩, hi, hne⟩ := st; ⟨⟨old, k e (by simp) _ he⟩, hi.at fun o q => k it (by simp) o q, hne⟩
  item := by
    intro X hP hw hK hc i pins s σ H E I hf st hg
    subst hP hw hK
    obtain ⟨⟨old, he⟩, hit, hne⟩ := st
    obtain ⟨xs, x, hq, hx⟩ := hg
    obtain ⟨its, rv, p, hz⟩ := I.tuple hq
    have hel : e < s.heap.objs.size := Heap.lt_size he
    have hil : it < s.heap.objs.size := by obtain ⟨_, q, _⟩ := hit; exact Heap.lt_size q
    have hlen := rv.length
    have hlt : i < its.toArray.size := by
      have := (List.getElem?_eq_some_iff.mp hx).1
      rw [List.size_toArray]; omega
    have hea : e ≠ a := by
      rintro rfl
      obtain ⟨o2, ho2, hc2, _⟩ := id p
      have he' : s.heap.get? e = some _ := he
      rw [he'] at ho2; cases ho2
      have hc3 : Value.type "enumerate" = Value.type "tuple" := hc2
      exact absurd hc3 (by decide)
    have D := PySem.Draws.tuple (prog := X.prog) (w := X.w) (A := X.A.in1) (I.ok.hd hc) it a (tuple_iter_ne hit p) its.toArray
    refine PySem.wpAny_pyNext_enum_itemC D he ⟨hit, p⟩ hlt hne (by simp only [List.mem_cons, List.not_mem_nil, or_false, not_or]; exact ⟨hne, hea⟩) fun u h' tk hpx ho hst' hT hsz hk => ?_
    obtain ⟨u', hu, ru⟩ := rv.get hx
    have eu : u' = u := by
      have z : its.toArray[i]? = some u := hpx
      rw [List.getElem?_toArray, hu] at z
      exact Option.some.inj z
    subst eu
    refine ⟨_, rfl, wpAny_letOwnedTupleGo_enum (s := { s with heap := h', toks := tk + 1 }) ho fun h'' he' sb => ?_⟩
    have hT2 : h''.get? s.heap.objs.size = some { cls := .type "tuple", data := .seq #[.int i tk, u'] } := (sb.2 _ (Nat.ne_of_gt hel)).trans hT
    have new : ObjOk X.prog X.w (upd H s.heap.objs.size (.tup [.int (i : Nat), x])) h'' s.heap.objs.size (.tup [.int (i : Nat), x]) := ⟨by show 2 ≤ sizeLine; decide, [.int i tk, u'], .cons ⟨_, rfl⟩ (.cons ru .nil), ⟨_, hT2, rfl, _, rfl⟩⟩
    have I1 : Inv X pins σ (upd H s.heap.objs.size (.tup [.int (i : Nat), x])) { s with heap := h'', toks := tk + 1 } :=
      I.turnedNew (ch := [e, it]) (fun b ob hb q => (sb.2 b (fun z => hb (by simp [z]))).trans (hk b ob (fun z => hb (by simp [z])) (fun z => hb (by simp [z])) q)) hf (Nat.le_refl _) new
    refine ⟨.ref s.heap.objs.size, _, I1, rfl, ⟨_, x, rfl, I.hok.fresh (Nat.le_refl _), rfl, fun ys hy => by rw [I.tuple_inj hy hq]; exact hx⟩, ⟨⟨u', ?_⟩, hst'.1.at fun o q => (sb.2 it (Ne.symm hne)).trans q, hne⟩, fun b hb => ?_⟩
    · have e1 : ((i + 1 : Nat) : Int) = (i : Int) + 1 := by omega
      rw [e1]; exact he'
    · have hb' : b < s.heap.objs.size := by
        have e' : b = e ∨ b = it := by simpa using hb
        rcases e' with z | z
        · rw [z]; exact hel
        · rw [z]; exact hil
      rw [upd_ne (Nat.ne_of_lt hb')]
      exact (hf b hb).1
  done := by
    intro X hP hw hK hc i pins s σ H E I hf st hg
    subst hP hw hK
    obtain ⟨⟨old, he⟩, hit, hne⟩ := st
    obtain ⟨xs, hq, hx⟩ := hg
    obtain ⟨its, rv, p, hz⟩ := I.tuple hq
    obtain ⟨f0, f1, f2, f3, f4, f5⟩ := hf it (by simp)
    have hl := rv.length
    have D := PySem.Draws.tuple (prog := X.prog) (w := X.w) (A := X.A.in1) (I.ok.hd hc) it a (tuple_iter_ne hit p) its.toArray
    have ei : i = its.toArray.size := by rw [List.size_toArray]; omega
    refine wpAny_pyNext_enum_endD D he ⟨ei ▸ hit, p⟩ fun h' eb => ⟨rfl, I.turned (t' := s.toks) (fun b o hb q => eb b o hb q) f0 f1 f3 f4 f5⟩
  self := fun A i s Q E st h => let ⟨⟨_, he⟩, _⟩ := st; wpAny_pyIter_enum he h
def iEnumA (K : PySem.W.Frag) (ta : TA) : TI := fun σ H R => ta σ H fun vs H1 => ∃ a xs, vs = [.ref a] ∧ ((SqL K H1 a xs ∧ R (Ite K a) H1) ∨ (SqT K H1 a xs ∧ R (IteT K a) H1))
theorem pi_enumA {X : Cx} {e : Expr} {ta : TA} {p pos tpos : Pos} {elts : List Expr} {kk : Nat} (hg : Gl X "enumerate") (hm : X.mg "enumerate" = none) (ha : PA X [e] ta) (hs : starEach [e] X.env = [(false, eval e X.env)] := by rfl) :
    PI X (.Tuple elts kk tpos) (.Call (.Name "enumerate" p) [e] [] pos) (iEnumA X.K ta) := by
  refine ⟨fun pins s σ H R I h => ?_⟩
  refine Call_ (ld_blt I hg hm boot_enumerate (PyProof.Rows.callWith_type1 (thn (ha.run pos pins s σ H _ I h) fun us s1 ⟨vs, H1, I1, r1, q1⟩ => ?_) hs rfl))
  obtain ⟨a, xs, ex, q⟩ := q1
  subst ex
  have fresh2 : ∀ b, b ∈ [s1.heap.objs.size + 1, s1.heap.objs.size] → FpOk X pins H1 b := fun b hb => by
    have e' : b = s1.heap.objs.size + 1 ∨ b = s1.heap.objs.size := by simpa using hb
    have hle : s1.heap.objs.size ≤ b := by
      rcases e' with z | z
      · rw [z]; exact Nat.le_add_right _ _
      · rw [z]; exact Nat.le_refl _
    exact I1.fpOk hle (I1.hok.fresh hle)
  cases r1 with
  | cons r rr =>
    cases rr
    cases r
    rcases q with ⟨hq, q⟩ | ⟨hq, q⟩
    · obtain ⟨its, rv, p', hz⟩ := I1.list hq
      refine call_enumerate_list p'.isList fun h' he hit hsz hk => wpAny_pyIter_enum he ?_
      have I2 : Inv X pins σ H1 { s1 with heap := h' } := I1.kept (t' := s1.toks) hk
      exact ⟨s1.heap.objs.size + 1, [s1.heap.objs.size + 1, s1.heap.objs.size], _, _, H1, rfl, I2, turn_enum a (s1.heap.objs.size + 1) s1.heap.objs.size, ⟨⟨.none, he⟩, hit, Nat.succ_ne_self _⟩, fresh2, q⟩
    · obtain ⟨its, rv, p', hz⟩ := I1.tuple hq
      refine en1_begins (PySem.begins_tuple a its.toArray) p' fun h' he hit hk => wpAny_pyIter_enum he ?_
      have I2 : Inv X pins σ H1 { s1 with heap := h' } := I1.kept (t' := s1.toks) hk
      exact ⟨s1.heap.objs.size + 1, [s1.heap.objs.size + 1, s1.heap.objs.size], _, _, H1, rfl, I2, turn_enumT a (s1.heap.objs.size + 1) s1.heap.objs.size, ⟨⟨.none, he⟩, ⟨_, hit, rfl, rfl⟩, Nat.succ_ne_self _⟩, fresh2, q⟩
end Fw
set_option Elab.async false
set_option linter.all false
set_option maxRecDepth 100000
set_option maxHeartbeats 4000000
namespace Fw
open PySem PySem.Spec PyProof.Rows L2

/-! ### chained comparisons -/
def chainM (g g' : D → D → Option R) (a b c : M R) : M R := M.bnd a fun r => M.bnd b fun s en => match peek en r, peek en s with
  | some d, some e => (match g d e with
    | some (.v (.bl k)) => if k then (M.bnd c fun u => peek2 g' s u) en else .ok (.v (.bl false)) en
    | _ => .bad)
  | _, _ => .bad
theorem OpR.lim {X : Cx} {f : Value → Value → Sem Value} {r : R2} (h : OpR X f r) : OpR X f (fun x y H Q => r x y H fun v H' => Lim X.K H' → Q v H') := by
  intro pins s σ H x y v u Q I rx ry q
  exact thn (h pins s σ H x y v u _ I rx ry q) fun _ _ ⟨z, H', I', r', q'⟩ => ⟨z, H', I', r', q' (inv_lim I')⟩
section
variable {X : Cx} {W : WX} {a b c : Expr} {pos p p2 : Pos} {fa fb fc : M R} {op op' : CmpOp} {g g' : D → D → Option R}
theorem de_chain (ho : OpD X (compareOp op) g) (ho' : OpD X (compareOp op') g') (ha : DE X W a fa) (hb : DE X W b fb) (hcc : DE X W c fc) (hm : lastMarks [op, op'] [b, c] = false := by with_unfolding_all rfl) : DE X W (.Compare a [op, op'] [b, c] pos) (chainM g g' fa fb fc) := by
  obtain ⟨ta, pa, ka⟩ := ha.ex
  obtain ⟨tb, pb, kb⟩ := hb.ex
  obtain ⟨tc, pc, kc⟩ := hcc.ex
  obtain ⟨r, o, kr⟩ := ho.ex
  obtain ⟨r', o', kr'⟩ := ho'.ex
  refine DE.mk' (pe_chain (OpR.lim o) o' pa pb pc hm) fun σ H en Q l E post => ?_
  refine ka σ H en _ l E (PostG.bindAt (Stp.refl E) post fun r1 en1 v1 H1 _ l1 s1 rr1 post1 => ?_)
  refine kb σ H1 en1 _ l1 s1.er (PostG.bindAt s1 post1 fun r2 en2 v2 H2 _ l2 s2 rr2 post2 => ?_)
  split at post2
  · next d e h1 h2 =>
    have q1 := Rb.peek s2.er (RR.later s1.er rr1 s2) h1
    have q2 := Rb.peek s2.er rr2 h2
    split at post2
    · next k hk =>
      refine kr H2 v1 v2 d e _ l2 q1 q2 ?_
      rw [hk]
      intro v H3 sm dr l3
      cases dr
      refine ⟨k, rfl, ?_⟩
      have s3 := s2.trans (Stp.same s2.er sm)
      cases k with
      | false =>
        rw [if_neg Bool.false_ne_true]
        simp only [Bool.false_eq_true, if_false] at post2
        exact fun l4 => post2 _ H3 l4 (s1.trans s3) (.bl false)
      | true =>
        rw [if_pos rfl]
        simp only [if_true] at post2
        refine kc σ H3 en2 _ l3 s3.er (PostG.bindAt (s1.trans s3) post2 fun r3 en3 v3 H4 _ l4 s4 rr3 post3 => ?_)
        unfold peek2 at post3
        split at post3
        · next d' e' h3 h4 => exact kr' H4 v2 v3 d' e' _ l4 (Rb.peek s4.er (RR.later s3.er (RR.later s2.er rr2 (Stp.same s2.er sm)) s4) h3) (Rb.peek s4.er rr3 h4) (PostG.ofO ((s1.trans s3).trans s4) post3)
        · exact post3.elim
    · exact post2.elim
  · exact post2.elim
end

/-! ### slices -/
def cutD (xs : List D) (lo hi : Option Int) : List D := (xs.drop (HT.sIx xs.length 0 lo)).take (HT.sIx xs.length xs.length hi - HT.sIx xs.length 0 lo)
def noPartM : M (Option Int) := fun en => .ok none en
def partM (a : M R) : M (Option Int) := M.bnd a fun r en => match peek en r with
  | some (.int i) => .ok (some i) en
  | _ => .bad
def sliceM (a : M R) (lo hi : M (Option Int)) : M R := M.bnd a fun r => M.bnd lo fun l => M.bnd hi fun h en => match peek en r with
  | some (.lst xs) => .ok (.fr (.lst (cutD xs l h))) en
  | some (.tup xs) => .ok (.v (.tup (cutD xs l h))) en
  | _ => .bad
structure DO (X : Cx) (W : WX) (e : Option Expr) (f : M (Option Int)) : Prop where
  ex : ∃ t : TO, PO X e t ∧ ∀ σ H en Q, Lim X.K H → EnR X.K X.mg σ H en → PostG X.K X.mg W σ H en (fun _ _ o o' => o = o') (f en) Q → t σ H Q
section
variable {X : Cx} {W : WX} {a : Expr} {e : Expr} {lo hi : Option Expr} {pos p p2 : Pos} {fa : M R} {fl fh : M (Option Int)}
theorem do_none : DO X W none noPartM := ⟨_, po_none, fun σ H en Q l E post => post none H l (Stp.refl E) rfl⟩
theorem do_some (h : DE X W e fa) : DO X W (some e) (partM fa) := by
  obtain ⟨t, p, k⟩ := h.ex
  refine ⟨_, po_some p, fun σ H en Q l E post => k σ H en _ l E (PostG.bindAt (Stp.refl E) post fun r en1 v H1 _ l1 s1 rr post1 => ?_)⟩
  split at post1
  · next i pk => exact ⟨i, Rb.int (Rb.peek s1.er rr pk), post1 (some i) H1 l1 s1 rfl⟩
  · exact post1.elim
theorem DrL.cut {K : PySem.W.Frag} {mg : Str → Option Value} {H : Hp} {vs : List V} {ds : List D} (t : DrL K mg H vs ds) (lo hi : Option Int) : DrL K mg H (cutV vs lo hi) (cutD ds lo hi) := by
  unfold cutV cutD
  rw [t.length]
  exact (t.drop _).take _
theorem de_slice (ha : DE X W a fa) (hl : DO X W lo fl) (hh : DO X W hi fh) : DE X W (.Subscript a (.Slice lo hi none p2) pos) (sliceM fa fl fh) := by
  obtain ⟨ta, pa, ka⟩ := ha.ex
  obtain ⟨tl, pl, kl⟩ := hl.ex
  obtain ⟨th, ph, kh⟩ := hh.ex
  refine DE.mk' (pe_slice (SlR.or sl_list sl_tupA) pa pl ph) fun σ H en Q l E post => ?_
  refine ka σ H en _ l E (PostG.bindAt (Stp.refl E) post fun r1 en1 v1 H1 _ l1 s1 rr1 post1 => ?_)
  refine kl σ H1 en1 _ l1 s1.er (PostG.bindAt s1 post1 fun o en2 o' H2 _ l2 s2 e2 post2 => ?_)
  subst e2
  refine kh σ H2 en2 _ l2 s2.er (PostG.bindAt (s1.trans s2) post2 fun o2 en3 o2' H3 _ l3 s3 e3 post3 => ?_)
  subst e3
  have st := (s1.trans s2).trans s3
  have rr := RR.later s1.er rr1 (s2.trans s3)
  split at post3
  · next xs pk =>
    obtain ⟨a, vs, rfl, q, t⟩ := Rb.lst (Rb.peek st.er rr pk)
    refine .inl ⟨a, vs, rfl, q, fun p hp l4 => ?_⟩
    have sm : Same H3 (upd H3 p (.lst (cutV vs o' o2'))) := same_new hp
    exact post3 (.ref p) _ l4 (st.trans (Stp.same st.er sm)) (new_fr st hp ⟨_, upd_same, (t.cut _ _).mo (Mo.same sm)⟩)
  · next xs pk =>
    obtain ⟨a, vs, rfl, q, t⟩ := Rb.tup (Rb.peek st.er rr pk)
    refine .inr ⟨a, vs, rfl, q, fun w l4 => ?_, fun _ p hp l4 => ?_⟩
    · have e : cutD xs o' o2' = xs := by
        unfold cutD
        rw [t.length] at w
        rw [w.1, w.2]
        simp
      rw [e] at post3
      exact post3 (.ref a) H3 l4 st (.tup q t)
    · have sm : Same H3 (upd H3 p (.tup (cutV vs o' o2'))) := same_new hp
      exact post3 (.ref p) _ l4 (st.trans (Stp.same st.er sm)) (dr_newT hp (t.cut _ _))
  · exact post3.elim
end

/-! ### zip and enumerate, walked -/
def zipL (xs ys : List D) : List D := List.zipWith (fun x y => .tup [x, y]) xs ys
def zipI (a : M (List D)) : M Src := M.bnd a fun ds en => match ds with
  | [.lst xs, .lst ys] => .ok (zipL xs ys, none) en
  | [.tup xs, .tup ys] => .ok (zipL xs ys, none) en
  | _ => .bad
def enumL (xs : List D) : List D := xs.mapIdx fun i x => .tup [.int (i : Nat), x]
def enumN (i : Nat) : M Src := fun en => match en[i]? with
  | some (.v (.lst ds)) => .ok (enumL ds, none) en
  | some (.v (.tup ds)) => .ok (enumL ds, none) en
  | some (.mu _ (.lst ds)) => .ok (enumL ds, some i) en
  | _ => .bad
def enumI (a : M D) : M Src := M.bnd a fun d en => match d with
  | .lst xs => .ok (enumL xs, none) en
  | .tup xs => .ok (enumL xs, none) en
  | _ => .bad
section
variable {X : Cx} {W : WX} {tg e e2 : Expr} {tpos pos p : Pos} {elts : List Expr} {kk : Nat} {fs : M (List D)} {fd : M D}
theorem lim_updT {K : PySem.W.Frag} {H : Hp} {A : Addr} {ys : List V} (l1 : Lim K H) (hn : H A = none) (hy : ys.length ≤ sizeLine) : Lim K (upd H A (.tup ys)) := by
  intro b xs h
  by_cases hb : b = A
  · subst hb
    rcases h with h | h
    · rcases h with (h | ⟨o, h⟩) | ⟨o, its, n, h1, h2, h3, h4, h5, r⟩
      · rw [upd_same] at h; cases h
      · rw [upd_same] at h; cases h
      · have := r.length; simp only [Array.length_toList] at this; omega
    · rcases h with (h | ⟨o, h⟩) | ⟨o, its, n, h1, h2, h4, h5, r⟩
      · rw [upd_same] at h; cases h; exact hy
      · rw [upd_same] at h; cases h
      · have := r.length; simp only [Array.length_toList] at this; omega
  · refine l1 b xs (h.imp (fun h => ?_) fun h => ?_)
    · rcases h with (h | ⟨o, h⟩) | h
      · rw [upd_ne hb] at h; exact .inl (.inl h)
      · rw [upd_ne hb] at h; exact .inl (.inr ⟨o, h⟩)
      · exact .inr h
    · rcases h with (h | ⟨o, h⟩) | h
      · rw [upd_ne hb] at h; exact .inl (.inl h)
      · rw [upd_ne hb] at h; exact .inl (.inr ⟨o, h⟩)
      · exact .inr h
theorem pair_step {H1 : Hp} {T : Addr} {x y : V} {d d' : D} (hn : H1 T = none) (r : Dr X.K X.mg H1 x d) (r' : Dr X.K X.mg H1 y d') :
    Same H1 (upd H1 T (.tup [x, y])) ∧ (Lim X.K H1 → Lim X.K (upd H1 T (.tup [x, y]))) ∧ Dr X.K X.mg (upd H1 T (.tup [x, y])) (.ref T) (.tup [d, d']) :=
  ⟨same_new hn, fun l => lim_updT l hn (by show 2 ≤ sizeLine; rw [sizeLine_eq]; omega), dr_newT hn (.cons r (.cons r' .nil))⟩
theorem zipL_get {xs ys : List D} {i : Nat} {x y : D} (hx : xs[i]? = some x) (hy : ys[i]? = some y) : (zipL xs ys)[i]? = some (.tup [x, y]) := by
  unfold zipL; rw [List.getElem?_zipWith, hx, hy]
theorem zipL_len {xs ys : List D} : (zipL xs ys).length = min xs.length ys.length := by unfold zipL; rw [List.length_zipWith]
theorem enumL_get {xs : List D} {i : Nat} {x : D} (hx : xs[i]? = some x) : (enumL xs)[i]? = some (.tup [.int (i : Nat), x]) := by
  unfold enumL; rw [List.getElem?_mapIdx, hx]; rfl
theorem enumL_len {xs : List D} : (enumL xs).length = xs.length := by unfold enumL; rw [List.length_mapIdx]
theorem getE {α : Type} {xs : List α} {i : Nat} (h : i < xs.length) : ∃ x, xs[i]? = some x := ⟨_, List.getElem?_eq_getElem h⟩
theorem wr_zipL {σ : L2.St} {H : Hp} (l' : Lim X.K H) {a b : Addr} {xs ys : List V} {ds es : List D} (h1 : FzL X.K H a xs) (h2 : FzL X.K H b ys) (t1 : DrL X.K X.mg H xs ds) (t2 : DrL X.K X.mg H ys es) : WR X σ H (Itz X.K a b) (zipL ds es) none := by
  have m1 := l' _ _ (.inl h1.sq)
  have z1 := t1.length
  have z2 := t2.length
  refine ⟨by rw [zipL_len]; omega, fun H' => SqL X.K H' a xs ∧ SqL X.K H' b ys, fun i H1 v H2 => ∃ T x y, v = .ref T ∧ H1 T = none ∧ H2 = upd H1 T (.tup [x, y]) ∧ xs[i]? = some x ∧ ys[i]? = some y, ⟨fun i H hi ⟨q1, q2⟩ => ?_, fun H ⟨q1, q2⟩ => ?_, fun i H x H' hi ⟨q1, q2⟩ y => ?_⟩, fun H' m _ => ⟨(h1.mo m).sq, (h2.mo m).sq⟩, fun i H1 v H2 m ⟨T, x, y, e1, hn, e2, hx, hy⟩ => ?_⟩
  · rw [zipL_len] at hi
    obtain ⟨x, hx⟩ := getE (xs := xs) (i := i) (by omega)
    obtain ⟨y, hy⟩ := getE (xs := ys) (i := i) (by omega)
    exact ⟨xs, ys, x, y, q1, q2, hx, hy⟩
  · exact ⟨xs, ys, q1, q2, by rw [zipL_len]; omega⟩
  · obtain ⟨T, x, y, e1, hn, e2, hx, hy⟩ := y
    exact ⟨T, x, y, e1, hn, e2, hx xs q1, hy ys q2⟩
  · subst e1; subst e2
    obtain ⟨d, hd, r⟩ := t1.getV hx
    obtain ⟨d', hd', r'⟩ := t2.getV hy
    obtain ⟨p1, p2, p3⟩ := pair_step hn (r.mo m) (r'.mo m)
    exact ⟨p1, p2, _, zipL_get hd hd', p3⟩
theorem wr_zipT {σ : L2.St} {H : Hp} (l' : Lim X.K H) {a b : Addr} {xs ys : List V} {ds es : List D} (h1 : SqT X.K H a xs) (h2 : SqT X.K H b ys) (t1 : DrL X.K X.mg H xs ds) (t2 : DrL X.K X.mg H ys es) : WR X σ H (RZ.ItzT X.K a b) (zipL ds es) none := by
  have m1 := l' _ _ (.inr h1)
  have z1 := t1.length
  have z2 := t2.length
  refine ⟨by rw [zipL_len]; omega, fun H' => SqT X.K H' a xs ∧ SqT X.K H' b ys, fun i H1 v H2 => ∃ T x y, v = .ref T ∧ H1 T = none ∧ H2 = upd H1 T (.tup [x, y]) ∧ xs[i]? = some x ∧ ys[i]? = some y, ⟨fun i H hi ⟨q1, q2⟩ => ?_, fun H ⟨q1, q2⟩ => ?_, fun i H x H' hi ⟨q1, q2⟩ y => ?_⟩, fun H' m _ => ⟨sqT_mo m h1, sqT_mo m h2⟩, fun i H1 v H2 m ⟨T, x, y, e1, hn, e2, hx, hy⟩ => ?_⟩
  · rw [zipL_len] at hi
    obtain ⟨x, hx⟩ := getE (xs := xs) (i := i) (by omega)
    obtain ⟨y, hy⟩ := getE (xs := ys) (i := i) (by omega)
    exact ⟨xs, ys, x, y, q1, q2, hx, hy⟩
  · exact ⟨xs, ys, q1, q2, by rw [zipL_len]; omega⟩
  · obtain ⟨T, x, y, e1, hn, e2, hx, hy⟩ := y
    exact ⟨T, x, y, e1, hn, e2, hx xs q1, hy ys q2⟩
  · subst e1; subst e2
    obtain ⟨d, hd, r⟩ := t1.getV hx
    obtain ⟨d', hd', r'⟩ := t2.getV hy
    obtain ⟨p1, p2, p3⟩ := pair_step hn (r.mo m) (r'.mo m)
    exact ⟨p1, p2, _, zipL_get hd hd', p3⟩
theorem di_zip (hg : Gl X "zip") (hm : X.mg "zip" = none) (ha : DAV X W [e, e2] fs) (hs : starEach [e, e2] X.env = (false, eval e X.env) :: starEach [e2] X.env := by rfl) (hpl : (backTo pos (starEach [e2] X.env)).any (·.1) = false := by rfl) :
    DI X W (.Tuple elts kk tpos) (.Call (.Name "zip" p) [e, e2] [] pos) (zipI fs) := by
  obtain ⟨ta, pa, ka⟩ := ha.ex
  refine ⟨_, RZ.pi_zipA hg hm pa hs hpl, fun σ H en R l E post => ka σ H en _ l E (PostG.bindAt (Stp.refl E) post fun ds en1 vs H1 _ l1 s1 t post1 => ?_)⟩
  split at post1
  · next xs ys =>
    cases t with
    | cons r t =>
      cases t with
      | cons r2 t =>
        cases t
        cases r with
        | lst q1 t1 =>
          cases r2 with
          | lst q2 t2 => exact ⟨_, _, _, _, rfl, .inl ⟨q1.sq, q2.sq, post1 _ H1 l1 s1 (wr_zipL l1 q1 q2 t1 t2)⟩⟩
  · next xs ys =>
    cases t with
    | cons r t =>
      cases t with
      | cons r2 t =>
        cases t
        cases r with
        | tup q1 t1 =>
          cases r2 with
          | tup q2 t2 => exact ⟨_, _, _, _, rfl, .inr ⟨q1, q2, post1 _ H1 l1 s1 (wr_zipT l1 q1 q2 t1 t2)⟩⟩
  · exact post1.elim
theorem wr_enumL {σ : L2.St} {H : Hp} (l' : Lim X.K H) {l : Addr} {xs : List V} {ds : List D} {lk : Option Nat} (h : SqL X.K H l xs) (t : DrL X.K X.mg H xs ds) (hk : FzL X.K H l xs ∨ ∃ i, lk = some i ∧ σ[i]? = some (some (.ref l))) : WR X σ H (Ite X.K l) (enumL ds) lk := by
  have z := t.length
  refine ⟨by rw [enumL_len, ← z]; exact l' _ _ (.inl h), fun H' => SqL X.K H' l xs, fun i H1 v H2 => ∃ T x, v = .ref T ∧ H1 T = none ∧ H2 = upd H1 T (.tup [.int (i : Nat), x]) ∧ xs[i]? = some x, ⟨fun i H hi q => ?_, fun H q => ⟨xs, q, by rw [enumL_len]; omega⟩, fun i H x H' hi q y => ?_⟩, fun H' m st => ?_, fun i H1 v H2 m ⟨T, x, e1, hn, e2, hx⟩ => ?_⟩
  · rw [enumL_len] at hi
    obtain ⟨x, hx⟩ := getE (xs := xs) (i := i) (by omega)
    exact ⟨xs, x, q, hx⟩
  · obtain ⟨T, x, e1, hn, e2, hx⟩ := y
    exact ⟨T, x, e1, hn, e2, hx xs q⟩
  · rcases hk with z | ⟨i, e, q⟩
    · exact (z.mo m).sq
    · rcases h with (h | ⟨o, h⟩) | h
      · exact .inl (.inl ((st i l e q).trans h))
      · exact .inl (.inr ⟨o, m.frz _ _ _ h⟩)
      · exact .inr h
  · subst e1; subst e2
    obtain ⟨d, hd, r⟩ := t.getV hx
    obtain ⟨p1, p2, p3⟩ := pair_step hn (.int (i : Nat)) (r.mo m)
    exact ⟨p1, p2, _, enumL_get hd, p3⟩
theorem wr_enumT {σ : L2.St} {H : Hp} (l' : Lim X.K H) {l : Addr} {xs : List V} {ds : List D} {lk : Option Nat} (h : SqT X.K H l xs) (t : DrL X.K X.mg H xs ds) : WR X σ H (IteT X.K l) (enumL ds) lk := by
  have z := t.length
  refine ⟨by rw [enumL_len, ← z]; exact l' _ _ (.inr h), fun H' => SqT X.K H' l xs, fun i H1 v H2 => ∃ T x, v = .ref T ∧ H1 T = none ∧ H2 = upd H1 T (.tup [.int (i : Nat), x]) ∧ xs[i]? = some x, ⟨fun i H hi q => ?_, fun H q => ⟨xs, q, by rw [enumL_len]; omega⟩, fun i H x H' hi q y => ?_⟩, fun H' m st => sqT_mo m h, fun i H1 v H2 m ⟨T, x, e1, hn, e2, hx⟩ => ?_⟩
  · rw [enumL_len] at hi
    obtain ⟨x, hx⟩ := getE (xs := xs) (i := i) (by omega)
    exact ⟨xs, x, q, hx⟩
  · obtain ⟨T, x, e1, hn, e2, hx⟩ := y
    exact ⟨T, x, e1, hn, e2, hx xs q⟩
  · subst e1; subst e2
    obtain ⟨d, hd, r⟩ := t.getV hx
    obtain ⟨p1, p2, p3⟩ := pair_step hn (.int (i : Nat)) (r.mo m)
    exact ⟨p1, p2, _, enumL_get hd, p3⟩
theorem di_enumV (hg : Gl X "enumerate") (hm : X.mg "enumerate" = none) (h : DV X W e fd) (hs : starEach [e] X.env = [(false, eval e X.env)] := by rfl) : DI X W (.Tuple elts kk tpos) (.Call (.Name "enumerate" p) [e] [] pos) (enumI fd) := by
  obtain ⟨t, pe, k⟩ := h.ex
  refine ⟨_, pi_enumA hg hm (pa_cons pe pa_nil hs) hs, fun σ H en R l E post => k σ H en _ l E (PostG.bindAt (Stp.refl E) post fun d en1 v H1 _ l1 s1 r post1 => ?_)⟩
  cases d with
  | lst ds =>
    cases r with
    | lst q t => exact ⟨_, _, rfl, .inl ⟨q.sq, post1 _ H1 l1 s1 (wr_enumL l1 q.sq t (.inl q))⟩⟩
  | tup ds =>
    cases r with
    | tup q t => exact ⟨_, _, rfl, .inr ⟨q, post1 _ H1 l1 s1 (wr_enumT l1 q t)⟩⟩
  | _ => exact post1.elim
theorem di_enum (i : Nat) {x : Str} (hg : Gl X "enumerate") (hm : X.mg "enumerate" = none) (hN : X.N[i]? = some x := by rfl) (hv : Vis X.env.scope x := by first | exact Or.inl rfl | exact Or.inr (Or.inl rfl) | exact Or.inr (Or.inr rfl)) (hd : (x == ("__debug__" : Str)) = false := by decide)
    (hcd : (x == ("__classdict__" : Str)) = false := by decide) (hs : starEach [.Name x p2] X.env = [(false, eval (.Name x p2) X.env)] := by rfl) : DI X W (.Tuple elts kk tpos) (.Call (.Name "enumerate" p) [.Name x p2] [] pos) (enumN i) := by
  refine ⟨_, pi_enumA hg hm (pa_cons (pe_var hN hv hd hcd) pa_nil hs) hs, fun σ H en R l E post => ?_⟩
  unfold enumN at post
  split at post
  · next ds h =>
    obtain ⟨v, q, r⟩ := E.val i _ h
    cases r with
    | lst q1 t => exact ⟨_, q, _, _, rfl, .inl ⟨q1.sq, post _ H l (Stp.refl E) (wr_enumL l q1.sq t (.inl q1))⟩⟩
  · next ds h =>
    obtain ⟨v, q, r⟩ := E.val i _ h
    cases r with
    | tup q1 t => exact ⟨_, q, _, _, rfl, .inr ⟨q1, post _ H l (Stp.refl E) (wr_enumT l q1 t)⟩⟩
  · next k ds h =>
    obtain ⟨a, q, m⟩ := E.mu i _ _ h
    obtain ⟨xs, hx, t⟩ := m
    exact ⟨_, q, a, _, rfl, .inl ⟨SqL.of hx, post _ H l (Stp.refl E) (wr_enumL l (SqL.of hx) t (.inr ⟨i, rfl, q⟩))⟩⟩
  · exact post.elim
end
end Fw
set_option Elab.async false
set_option linter.all false
set_option maxRecDepth 100000
set_option maxHeartbeats 4000000
namespace Fw
open PySem PySem.Spec PyProof.Rows L2

/-! ### sorted(set(list of whole numbers)) -/
section
variable {P : Program} {w : World} {A : Around} {E : Value → Shared → Prop} {s : Shared}
/-- a new set -/
abbrev bare (w : World) : Obj := { cls := .type "set", dict := none, data := .set #[] 0 (.fresh 0 0 (!w.params.followText "set-order")) }
set_option maxHeartbeats 3200000 in
theorem set_of_list {l : Addr} {items : Array Value} (ns : List Int) {Q : Value → Shared → Prop} (hh : A.handled = none) (hl : s.heap.IsList l items) (hit : IntsAre items.toList ns) (hb : ns.length + 1 < scanBound)
    (h : ∀ (h' : Heap) (tk c : Nat), SetR w h' s.heap.objs.size (fun j => decide (j ∈ ns)) c → c ≤ ns.length → (∀ b o, s.heap.get? b = some o → h'.get? b = some o) → Q (.ref s.heap.objs.size) { s with heap := h', toks := tk }) :
    wpAny (model P w) A (call (.type "set") [.ref l]) Q E s := by
  have hisz : items.size = ns.length := by
    have q := IntsAre.length hit
    rw [Array.length_toList] at q
    exact q
  obtain ⟨c, tl, hmro⟩ := F.called_set.mro
  have hmade := F.called_set.made
  have hsub := F.called_set.sub
  refine wpAny_call (codeAny_of_tree ?_)
  show wpAny _ _ (callAny (.type "set") _) _ _ _
  refine wpAny_pure ⟨Code.quiet_builtin _ (by decide +kernel), codeAny_builtin F.entry_type_call ?_⟩
  rw [Around.under_plain (weight_type_call_type "set" [.ref l] []) rfl]
  have h1 := F.called_set.notType
  have h2 := F.called_set.canCreate
  have hct := F.typeCall_set_1 (.ref l)
  repeat (any_goals (first | assumption | wp_step))

  refine codeAny_mono (code_set_led1 (.ref l) (E := E) (Q₁ := fun obj s₁ => obj = .ref s.heap.objs.size ∧ s₁ = { s with heap := s.heap.push (bare w) }) ⟨rfl, rfl⟩) fun r s₁ hr => ?_
  cases r with
  | error e => exact hr
  | ok fl =>
    cases fl with
    | ret obj =>
      obtain ⟨rfl, rfl⟩ := hr
      have hS : (s.heap.push (bare w)).get? s.heap.objs.size = some (bare w) := Heap.get?_push_size _ rfl
      have hT : Shared.TypeIs { s with heap := s.heap.push (bare w) } (.ref s.heap.objs.size) "set" := ⟨_, hS, rfl⟩
      have hli := F.called_set.init.lookup
      have hbi := F.called_set.init.bind (.ref s.heap.objs.size)
      repeat (any_goals (first | assumption | wp_step))

      refine codeAny_mono (codeAny_call_builtin (R := wants (fun r s₂ => r = .none ∧ ∃ h' tk c, s₂ = { s with heap := h', toks := tk } ∧ SetR w h' s.heap.objs.size (fun j => decide (j ∈ ns)) c ∧ c ≤ ns.length ∧
          (∀ b o, s.heap.get? b = some o → h'.get? b = some o)) E) F.called_set.init.plain F.entry_set_init (check_set_init_1 hT ?_)) fun r₂ s₂ hr₂ => ?_
      · obtain ⟨ol, hol, hcl, nl, hdl⟩ := hl
        obtain ⟨ocls, odict, odata, oslots⟩ := ol
        simp only at hcl hdl
        subst hcl; subst hdl
        have hol' : (s.heap.push (bare w)).get? l = some { cls := .type "list", dict := odict, data := .seq items nl, slots := oslots } := Heap.get?_push_of_some _ hol
        have hsls := F.sub_list_set
        have hslf := F.sub_list_frozenset
        have hne : (Value.type "list" == Value.type "dict") = false := by decide
        have hl1 : (s.heap.push (bare w)).IsList l items := ⟨_, hol', rfl, nl, rfl⟩
        unfold Builtin.«set.__init__» noKeywords Builtin.Frozenset.updateFrom
        generalize hPI : pyIter = PI
        wp_walk
        subst hPI

        refine wpAny_pyIter_list hl1 ?_
        refine wpAny_bind (wpAny_runValue ?_)
        have hlS : l < s.heap.objs.size := Heap.lt_size hol
        have hh3 : A.in1.in1.in1.handled = none := by simp [hh]
        have hz1 : (s.heap.push (bare w)).objs.size = s.heap.objs.size + 1 := Heap.size_push ..
        have hneI : l ≠ (s.heap.push (bare w)).objs.size := by
          rw [Heap.size_push]; exact Nat.ne_of_lt (Nat.lt_succ_of_lt hlS)
        have hSf : s.heap.objs.size ∉ [(s.heap.push (bare w)).objs.size, l] := by
          rw [Heap.size_push]; simp only [List.mem_cons, List.mem_singleton, List.not_mem_nil, or_false, not_or]
          exact ⟨Nat.ne_of_lt (Nat.lt_succ_self _), Nat.ne_of_gt hlS⟩
        have hval : ∀ (i : Nat) (v : Value), items[i]? = some v → ∃ k t, ns[i]? = some k ∧ v = .int k t := fun i v hv => by
          have hi : i < ns.length := by rw [← hisz]; exact (Array.getElem?_eq_some_iff.mp hv).1
          obtain ⟨t, e⟩ := PyProof.Rows.IntsAre.int_at hit i v (by rw [Array.getElem?_toList]; exact hv)
          refine ⟨ns[i], t, List.getElem?_eq_getElem hi, ?_⟩
          rw [e, List.getD_eq_getElem?_getD, List.getElem?_eq_getElem hi] <;> rfl
        refine set_update_ints ((Walks.list hh3 _ l hneI items).toS) s.heap.objs.size
          hSf ns hisz hb hval (items.size - 0) 0 _ (by omega) (Nat.zero_le _)
          ⟨⟨_, Heap.get?_push_size _ rfl, rfl, rfl⟩, (hl1.push _)⟩ ?hS0 ?hR
        case hS0 =>
          have hget : ((s.heap.push (bare w)).push { cls := .type "list_iterator", data := .fields #[.ref l, .int 0 0] }).get? s.heap.objs.size
              = some (bare w) := Heap.get?_push_of_some _ hS
          exact ⟨0, Nat.le_refl 0, setR_new_at hget⟩
        case hR =>
          intro s' c' hm hc' hS'
          obtain ⟨h', g2, d', tk', os'⟩ := s'
          have eg : g2 = s.gens := hm.gens
          have ed : d' = s.drawn := hm.drawn
          have eo : os' = s.os := hm.os
          subst eg; subst ed; subst eo
          show wpAny _ _ _ _ _ _
          refine wpAny_pure ?_
          show wpAny _ _ (ret Value.none) _ _ _
          rw [hisz] at hc'
          refine wpAny_pure ⟨rfl, h', tk', c', rfl, hS', hc', fun b o e => ?_⟩
          have hb0 : b < s.heap.objs.size := Heap.lt_size e
          have hb1 : b ≠ s.heap.objs.size := Nat.ne_of_lt hb0
          have hb2 : b ≠ (s.heap.push (bare w)).objs.size := by
            rw [Heap.size_push]; exact Nat.ne_of_lt (Nat.lt_succ_of_lt hb0)
          exact hm.heap b o (by simp only [List.mem_cons, List.mem_singleton, List.not_mem_nil, or_false, not_or]; exact ⟨hb1, hb2⟩) (Heap.get?_push_of_some _ (Heap.get?_push_of_some _ e))

      · cases r₂ with
        | error e => exact hr₂
        | ok fl₂ =>
          cases fl₂ with
          | ret r =>
            obtain ⟨rfl, h', tk, c', rfl, hS', hc', hk'⟩ := hr₂
            repeat (any_goals (first | assumption | wp_step))
            exact h _ _ _ hS' hc' hk'
          | _ => exact hr₂.elim
    | _ => exact hr.elim
end
end Fw
set_option Elab.async false
set_option linter.all false
set_option maxRecDepth 100000
set_option maxHeartbeats 4000000
namespace Fw
open PySem PySem.Spec PyProof.Rows L2
section
variable {P : Program} {w : World} {A : Around} {E : Value → Shared → Prop} {s : Shared} {a : Addr}
/-- sorted(a set of whole numbers), of any size -/
theorem sorted_of_set {S : Int → Bool} {n : Nat} {Q : Value → Shared → Prop} (R : SetR w s.heap a S n) (hh : A.handled = none)
    (hQ : ∀ s' p (out : List Value) (c : Nat) (ns : List Int), (∀ b o, s.heap.get? b = some o → s'.heap.get? b = some o) → s'.gens = s.gens → s'.os = s.os → s.heap.objs.size ≤ p →
      s'.heap.get? p = some (seqObj "list" out.toArray c) → IntsAre out ns → ns.Pairwise (· < ·) → (∀ k, k ∈ ns ↔ S k = true) → ns.length ≤ 5000 → Q (.ref p) s') : wpAny (model P w) A (call (.builtin "sorted") [.ref a]) Q E s := by
  obtain ⟨o, es, ep, t, ho, hex, hd, g, nd, hm, hb, hf, hn, hr, hl⟩ := R
  refine Calls.call_function_entry kind_sorted plain_sorted entry_sorted (args_sorted1 _) ?_
  unfold Builtin.«sorted»
  refine wpAny_bind (m := checkCount "sorted" 1 1 _) (wpAny_pure ?_)
  refine wpAny_bind (collect_set (A := A.in1) hh ⟨o, ho, hex.1, hd⟩ hf hb hr hl fun s1 vs k1 hz g1 o1 pm => ?_)
  have hvl : vs.length = n := by rw [pm.length_eq, List.length_map, Array.length_toList]; exact hn
  have hbn : n ≤ 5000 := by unfold scanBound at hb; omega
  have hI : IntsAre vs (vs.map Builtin.Re.reRawOf) := ints_of vs fun v hv => by
    obtain ⟨e, he, q⟩ := List.mem_map.mp (pm.mem_iff.mp hv)
    obtain ⟨k, tk, h1, _⟩ := g e he
    exact ⟨k, tk, by rw [← q]; exact h1⟩
  have pk : (vs.map Builtin.Re.reRawOf).Perm (es.toList.map keyOf) := by
    have q := pm.map Builtin.Re.reRawOf
    rw [List.map_map] at q
    exact q
  have hvz : vs.length ≤ sizeLine := by rw [hvl, sizeLine_eq]; omega
  refine wpAny_bind (wpAny_newList ?_ hvz)
  have hoL : (s1.heap.push (seqObj "list" vs.toArray 0)).get? s1.heap.objs.size = some (seqObj "list" vs.toArray 0) := Heap.get?_push_size _ rfl
  refine wpAny_bind (wpAny_holding (wpAny_call_entry slot_list_sort ⟨_, hoL, rfl⟩ entry_list_sort (SrtO.list_sort_ord SrtO.swo_int hoL hvz (fun h2 => SrtO.ints_sortable hI h2) fun out h1 h2 => ⟨_, rfl, ?_⟩) (args_list_sort _)))
  obtain ⟨c, hc⟩ := sortedHeap_at (vs := vs) (out := out.toArray) hoL
  obtain ⟨x1, x2, x3⟩ := SrtO.ints_out hI h1 h2
  have pn : (out.map SrtO.iv).Perm (es.toList.map keyOf) := x2.trans pk
  refine wpAny_pure ⟨_, rfl, hQ _ s1.heap.objs.size out c (out.map SrtO.iv) (fun b u e => ?_) g1 o1 hz hc x1 (lt_of_le_nodup _ x3 (pn.nodup_iff.mpr nd)) (fun k => by rw [pn.mem_iff, ← hm k]) ?_⟩
  · have q := k1 b u e
    have hlt := Heap.lt_size q
    show (sortedHeap (s1.heap.push (seqObj "list" vs.toArray 0)) s1.heap.objs.size vs out.toArray).get? b = some u
    rw [sortedHeap_old (Nat.ne_of_lt hlt) (by rw [Heap.size_push]; exact Nat.lt_succ_of_lt hlt)]
    exact Heap.get?_push_of_some _ q
  · rw [pn.length_eq, List.length_map, Array.length_toList, hn]; exact hbn
end
def tSortSet (K : PySem.W.Frag) (ta : TE) : TE := fun σ H Q => ta σ H fun x H1 => ∃ (l : Addr) (ns : List Int), x = .ref l ∧ SqL K H1 l (ns.map V.int) ∧ ns.length ≤ 4000 ∧ ∀ (ms : List Int) (p : Addr), ms.Pairwise (· < ·) → (∀ k, k ∈ ms ↔ k ∈ ns) → H1 p = none → Q (.ref p) (upd H1 p (.lst (ms.map V.int)))
section
variable {X : Cx} {W : WX} {e : Expr} {p p2 q pos : Pos} {ta : TE}
theorem pe_sortSet (hc : X.calm = true) (hg : Gl X "sorted") (hm : X.mg "sorted" = none) (hg2 : Gl X "set") (hm2 : X.mg "set" = none) (ha : PE X e ta) (na : starEach [e] X.env = (false, eval e X.env) :: starEach [] X.env := by rfl) :
    PE X (.Call (.Name "sorted" p) [.Call (.Name "set" p2) [e] [] q] [] pos) (tSortSet X.K ta) := by
  refine ⟨fun pins s σ H Q I h => ?_⟩
  refine Call_ (ld_blt I hg hm boot_sorted ?_)
  refine PyProof.Rows.callWith_builtin1 (PyProof.Rows.args_cons ?_ rfl) rfl rfl
  refine Call_ (ld_blt I hg2 hm2 boot_set ?_)
  refine PyProof.Rows.callWith_type1 (PyProof.Rows.args_cons (thn (ha.run pins s σ H _ I h) fun v s1 ⟨x, H1, I1, r1, q1⟩ => PyProof.Rows.args_nil ?_) na) na rfl
  obtain ⟨l, ns, rfl, hq, hl, q1⟩ := q1
  cases r1
  obtain ⟨its, rv, pl, hz⟩ := I1.list hq
  refine set_of_list ns (I1.ok.hd hc) pl.isList (ints_of_vals rv) (by unfold scanBound; omega) fun h' tk c R1 hcn k => ?_
  refine PyProof.Rows.args_nil ?_
  refine sorted_of_set (s := { s1 with heap := h', toks := tk }) R1 (I1.ok.hd hc) fun s2 p3 out ep ms k2 g2 o2 hp hob hi hs hm3 hlen => ?_
  have kall : ∀ b u, s1.heap.get? b = some u → s2.heap.get? b = some u := fun b u e => k2 b u (k b u e)
  have hsz : s1.heap.objs.size ≤ p3 := by
    obtain ⟨o, es, ep, t, ho, _⟩ := R1
    exact Nat.le_trans (Nat.le_of_lt (Heap.lt_size ho)) hp
  have hml : (ms.map V.int).length ≤ sizeLine := by rw [List.length_map, sizeLine_eq]; omega
  have hfr : H1 p3 = none := I1.hok.fresh hsz
  have I3 : Inv X pins σ (upd H1 p3 (.lst (ms.map V.int))) s2 :=
    I1.call' (ch := []) o2 (Un.laid kall hsz hfr) (I1.hok.laid kall hsz ⟨hml, out, ep, vals_of_ints hi, hob⟩) (by rw [g2]; exact I1.bare) (fun _ z => nomatch z)
  exact ⟨.ref p3, _, I3, rfl, q1 ms p3 hs (fun k => by rw [hm3, decide_eq_true_eq]) hfr⟩
theorem ordSet_facts (ns : List Int) : (ns.mergeSort fun a b => decide (a ≤ b)).Pairwise (· ≤ ·) ∧ ∀ k, k ∈ (ns.mergeSort fun a b => decide (a ≤ b)) ↔ k ∈ ns := by
  refine ⟨?_, fun k => (List.mergeSort_perm ns _).mem_iff⟩
  have h := List.pairwise_mergeSort (le := fun a b : Int => decide (a ≤ b)) (fun a b c h1 h2 => by simp only [decide_eq_true_eq] at *; omega) (fun a b => by simp only [Bool.or_eq_true, decide_eq_true_eq]; omega) ns
  exact h.imp fun h => of_decide_eq_true h
/-- each once -/
def onceL : List Int → List Int
  | [] => []
  | [a] => [a]
  | a :: b :: r => if a = b then onceL (b :: r) else a :: onceL (b :: r)
theorem onceL_mem : ∀ (l : List Int) (k : Int), k ∈ onceL l ↔ k ∈ l
  | [], k => by simp [onceL]
  | [a], k => by simp [onceL]
  | a :: b :: r, k => by
    unfold onceL
    split
    · next e => subst e; rw [onceL_mem (a :: r) k]; simp
    · rw [List.mem_cons, onceL_mem (b :: r) k, List.mem_cons (a := k) (b := a)]
theorem onceL_lt : ∀ (l : List Int), l.Pairwise (· ≤ ·) → (onceL l).Pairwise (· < ·)
  | [], _ => by simp [onceL]
  | [a], _ => by simp [onceL]
  | a :: b :: r, h => by
    obtain ⟨h1, h2⟩ := List.pairwise_cons.mp h
    unfold onceL
    split
    · exact onceL_lt (b :: r) h2
    · next e =>
      refine List.pairwise_cons.mpr ⟨fun y hy => ?_, onceL_lt (b :: r) h2⟩
      have hy' := (onceL_mem (b :: r) y).mp hy
      have ab := h1 b List.mem_cons_self
      rcases List.mem_cons.mp hy' with z | z
      · omega
      · have := (List.pairwise_cons.mp h2).1 y z; omega
/-- the members of a list of whole numbers, once each, in order -/
def ordSet (ns : List Int) : List Int := onceL (ns.mergeSort fun a b => decide (a ≤ b))
theorem ordSet_lt (ns : List Int) : (ordSet ns).Pairwise (· < ·) := onceL_lt _ (ordSet_facts ns).1
theorem ordSet_mem (ns : List Int) (k : Int) : k ∈ ordSet ns ↔ k ∈ ns := (onceL_mem _ k).trans ((ordSet_facts ns).2 k)
def sortSetM (a : M R) : M R := M.bnd a fun r en => match peek en r with
  | some (.lst ds) => (match intsOf ds with
    | some ns => if ns.length ≤ 4000 then .ok (.fr (.lst ((ordSet ns).map D.int))) en else .bad
    | none => .bad)
  | _ => .bad
theorem lt_ext : ∀ {as bs : List Int}, as.Pairwise (· < ·) → bs.Pairwise (· < ·) → (∀ k, k ∈ as ↔ k ∈ bs) → as = bs
  | [], [], _, _, _ => rfl
  | [], b :: bs, _, _, h => absurd ((h b).mpr List.mem_cons_self) (by simp)
  | a :: as, [], _, _, h => absurd ((h a).mp List.mem_cons_self) (by simp)
  | a :: as, b :: bs, ha, hb, h => by
    obtain ⟨a1, a2⟩ := List.pairwise_cons.mp ha
    obtain ⟨b1, b2⟩ := List.pairwise_cons.mp hb
    have e : a = b := by
      rcases List.mem_cons.mp ((h a).mp List.mem_cons_self) with z | z
      · exact z
      · rcases List.mem_cons.mp ((h b).mpr List.mem_cons_self) with y | y
        · exact y.symm
        · have := a1 b y; have := b1 a z; omega
    subst e
    rw [lt_ext a2 b2 fun k => ⟨fun hk => ?_, fun hk => ?_⟩]
    · rcases List.mem_cons.mp ((h k).mp (List.mem_cons_of_mem _ hk)) with z | z
      · have := a1 k hk; omega
      · exact z
    · rcases List.mem_cons.mp ((h k).mpr (List.mem_cons_of_mem _ hk)) with z | z
      · have := b1 k hk; omega
      · exact z
theorem de_sortSet {fa : M R} (hc : X.calm = true) (hg : Gl X "sorted") (hm : X.mg "sorted" = none) (hg2 : Gl X "set") (hm2 : X.mg "set" = none) (ha : DE X W e fa) (na : starEach [e] X.env = (false, eval e X.env) :: starEach [] X.env := by rfl) :
    DE X W (.Call (.Name "sorted" p) [.Call (.Name "set" p2) [e] [] q] [] pos) (sortSetM fa) := by
  obtain ⟨t, pe, k⟩ := ha.ex
  refine DE.mk' (pe_sortSet hc hg hm hg2 hm2 pe na) fun σ H en Q l E post => ?_
  refine k σ H en _ l E (PostG.bindAt (Stp.refl E) post fun r en1 v H1 _ l1 s1 rr post1 => ?_)
  split at post1
  · next ds pk =>
    split at post1
    · next ns hi =>
      split at post1
      · next hl =>
        obtain ⟨a, xs, rfl, qs, t⟩ := Rb.lst (Rb.peek s1.er rr pk)
        rw [intsOf_eq hi] at t
        rw [t.ints] at qs
        refine ⟨a, ns, rfl, qs, hl, fun ms p hs hk hp l2 => ?_⟩
        have e : ms = ordSet ns := lt_ext hs (ordSet_lt ns) fun k => (hk k).trans (ordSet_mem ns k).symm
        subst e
        exact post1 (.ref p) _ l2 (s1.trans (Stp.same s1.er (same_new hp))) (new_fr s1 hp ⟨_, upd_same, DrL.of_ints⟩)
      · exact post1.elim
    · exact post1.elim
  · exact post1.elim
end
end Fw
set_option Elab.async false
set_option linter.all false
set_option maxRecDepth 100000
set_option maxHeartbeats 4000000
namespace Fw
open PySem PySem.Spec PyProof.Rows L2

/-! ### one word for several kinds -/
def addG : D → D → Option R
  | .int i, .int j => some (.v (.int (i + j)))
  | d, e => orG addT (orG addL addS) d e
def mulG : D → D → Option R
  | .int i, .int j => mulI (.int i) (.int j)
  | d, e => mulT d e
section
variable {X : Cx} {W : WX} {a b c e : Expr} {pos p p2 : Pos} {fa fb fc : M R} {op op' : CmpOp} {g g' : D → D → Option R}
theorem OpD.pick {f : Value → Value → Sem Value} {g1 g2 g : D → D → Option R} (h1 : OpD X f g1) (h2 : OpD X f g2) (h : ∀ d e r, g d e = some r → g1 d e = some r ∨ g2 d e = some r) : OpD X f g := by
  obtain ⟨r1, o1, k1⟩ := h1.ex
  obtain ⟨r2, o2, k2⟩ := h2.ex
  refine ⟨_, OpR.or o1 o2, fun H x y d e Q l hx hy p => ?_⟩
  cases q : g d e with
  | none => rw [q] at p; exact p.elim
  | some r =>
    rw [q] at p
    rcases h d e r q with z | z
    · exact .inl (k1 H x y d e Q l hx hy (by rw [z]; exact p))
    · exact .inr (k2 H x y d e Q l hx hy (by rw [z]; exact p))
theorem od_add : OpD X (binaryOp .Add) addG := OpD.pick od_addI (OpD.or od_addT (OpD.or od_addL od_addS)) fun d e r h => by
  unfold addG at h
  split at h
  · exact .inl h
  · exact .inr h
theorem od_mul : OpD X (binaryOp .Mult) mulG := OpD.pick od_mulI od_mulT fun d e r h => by
  unfold mulG at h
  split at h
  · exact .inl h
  · exact .inr h
/-- a least or greatest of two numbers, or of a row -/
def minAG : List D → Option R
  | [.int i, .int j] => some (.v (.int (if j < i then j else i)))
  | ds => minG ds
def maxAG : List D → Option R
  | [.int i, .int j] => some (.v (.int (if j > i then j else i)))
  | ds => maxG ds
theorem CallD.pick {f : Value} {g1 g2 g : List D → Option R} (h1 : CallD X f g1) (h2 : CallD X f g2) (h : ∀ ds r, g ds = some r → g1 ds = some r ∨ g2 ds = some r) : CallD X f g := by
  obtain ⟨r1, o1, k1⟩ := h1.ex
  obtain ⟨r2, o2, k2⟩ := h2.ex
  refine ⟨_, CallR.or o1 o2, fun H x d Q l hx p => ?_⟩
  cases q : g d with
  | none => rw [q] at p; exact p.elim
  | some r =>
    rw [q] at p
    rcases h d r q with z | z
    · exact .inl (k1 H x d Q l hx (by rw [z]; exact p))
    · exact .inr (k2 H x d Q l hx (by rw [z]; exact p))
theorem cd_minA (hc : X.calm = true) (hu : X.A.units + 64 < cLine) : CallD X (.builtin "min") minAG := CallD.pick (cd_min2 hc) (cd_min hc hu) fun ds r h => by
  unfold minAG at h
  split at h
  · exact .inl h
  · exact .inr h
theorem cd_maxA (hc : X.calm = true) (hu : X.A.units + 64 < cLine) : CallD X (.builtin "max") maxAG := CallD.pick (cd_max2 hc) (cd_max hc hu) fun ds r h => by
  unfold maxAG at h
  split at h
  · exact .inl h
  · exact .inr h

theorem cr_sumT (hc : X.calm = true) : CallR X (.builtin "sum") (fun vs H Q => ∃ (a : Addr) (ns : List Int), vs = [V.ref a] ∧ SqT X.K H a (ns.map V.int) ∧ Q (.int ns.sum) H) := by
  intro pins s σ H vs us Q I r h
  obtain ⟨a, ns, rfl, hs, q⟩ := h
  obtain ⟨its, rv, hl, _⟩ := I.tuple hs
  rw [Vals.ref1 r]
  have hi := rv.ints
  obtain ⟨xs, e⟩ := hi.allInts.items
  have hn : numsOf (intItems xs).toList = ns := by rw [← e]; exact hi.numsOf
  rw [nums_intItems] at hn
  have hl : s.heap.IsTuple a its.toArray := hl
  rw [e] at hl
  refine PySem.W.ktm_sumG (I.ok.hd hc) hl fun h' tk t' hk => ?_
  refine ⟨.int _, H, I.kept hk, ⟨_, rfl⟩, ?_⟩
  rw [preSum_eq, List.take_of_length_le (by simp), hn]
  exact q
def sumAG : List D → Option R
  | [.tup xs] => (intsOf xs).map fun ns => .v (.int ns.sum)
  | ds => sumG ds
def sumTG : List D → Option R
  | [.tup xs] => (intsOf xs).map fun ns => .v (.int ns.sum)
  | _ => none
theorem cd_sumT (hc : X.calm = true) : CallD X (.builtin "sum") sumTG := ⟨_, cr_sumT hc, fun H xs ds Q l h p => by
  unfold sumTG at p
  split at p
  · next zs =>
    obtain ⟨x, rfl, r⟩ := rb1 h
    obtain ⟨a, ys, rfl, q, t⟩ := Rb.tup r
    cases e : intsOf zs with
    | none => rw [e] at p; exact p.elim
    | some ns =>
      rw [e] at p
      rw [intsOf_eq e] at t
      exact ⟨a, ns, rfl, by rw [← t.ints]; exact q, p _ H (Same.refl H) (.int _)⟩
  · exact p.elim⟩
theorem cd_sumA (hc : X.calm = true) : CallD X (.builtin "sum") sumAG := CallD.pick (cd_sumT hc) (cd_sum hc) fun ds r h => by
  unfold sumAG at h
  split at h
  · exact .inl h
  · exact .inr h

/-! ### list(range(..)), tuple(range(..)) -/
def rgM (f : List D → R) (a b : M R) : M R := M.bnd a fun r => M.bnd b fun s en => match peek en r, peek en s with
  | some (.int i), some (.int j) => if 0 ≤ i ∧ i ≤ 16777216 ∧ 0 ≤ j ∧ j ≤ 16777216 ∧ (j - i).toNat ≤ sizeLine then .ok (f (rangeL i (j - i).toNat)) en else .bad
  | _, _ => .bad
def rgM1 (f : List D → R) (b : M R) : M R := M.bnd b fun s en => match peek en s with
  | some (.int j) => if 0 ≤ j ∧ j ≤ 16777216 ∧ j.toNat ≤ sizeLine then .ok (f (rangeL 0 j.toNat)) en else .bad
  | _ => .bad
theorem rg_dr {H : Hp} (i j : Int) : DrL X.K X.mg H (rgV i j) (rangeL i (j - i).toNat) := by
  have e1 : rgV i j = ((List.range (j - i).toNat).map fun k : Nat => i + (k : Int)).map V.int := by unfold rgV; rw [List.map_map]; rfl
  have e2 : rangeL i (j - i).toNat = ((List.range (j - i).toNat).map fun k : Nat => i + (k : Int)).map D.int := by unfold rangeL; rw [List.map_map]; rfl
  rw [e1, e2]
  exact DrL.of_ints
theorem de_listRg2 {p0 : Pos} (hc : X.calm = true) (hg : Gl X "list") (hm : X.mg "list" = none) (hgr : Gl X "range") (hmr : X.mg "range" = none) (ha : DE X W a fa) (hb : DE X W b fb) (na : starEach [.Call (.Name "range" p) [a, b] [] p2] X.env = (false, eval (.Call (.Name "range" p) [a, b] [] p2) X.env) :: starEach [] X.env := by rfl)
    (nr : starEach [a, b] X.env = (false, eval a X.env) :: starEach [b] X.env := by rfl) (nr2 : starEach [b] X.env = (false, eval b X.env) :: starEach [] X.env := by rfl) (hpl : (backTo p2 (starEach [b] X.env)).any (fun x => x.1) = false := by rfl) :
    DE X W (.Call (.Name "list" p0) [.Call (.Name "range" p) [a, b] [] p2] [] pos) (rgM (fun ds => .fr (.lst ds)) fa fb) := by
  obtain ⟨ta, pa, ka⟩ := ha.ex
  obtain ⟨tb, pb, kb⟩ := hb.ex
  refine DE.mk' (pe_listRg hc hg hm (prg_2 hgr hmr pa pb nr nr2 hpl) na) fun σ H en Q l E post => ?_
  refine ka σ H en _ l E (PostG.bindAt (Stp.refl E) post fun r1 en1 v1 H1 _ l1 s1 rr1 post1 => ?_)
  refine kb σ H1 en1 _ l1 s1.er (PostG.bindAt s1 post1 fun r2 en2 v2 H2 _ l2 s2 rr2 post2 => ?_)
  split at post2
  · next i j h1 h2 =>
    split at post2
    · next k =>
      have st := s1.trans s2
      refine ⟨i, j, Rb.int (Rb.peek s2.er (RR.later s1.er rr1 s2) h1), Rb.int (Rb.peek s2.er rr2 h2), RgOk.of_le k.1 k.2.2.2.1 k.2.1 k.2.2.1, fun q hq l3 => ?_⟩
      exact post2 (.ref q) _ l3 (st.trans (Stp.same st.er (same_new hq))) (new_fr st hq ⟨_, upd_same, rg_dr i j⟩)
    · exact post2.elim
  · exact post2.elim
end
section
variable {X : Cx} {W : WX} {a b c e : Expr} {pos p p2 p3 : Pos} {fa fb fc : M R} {op op' : CmpOp} {g g' : D → D → Option R}
theorem nilA_len : ∀ en rs en', nilA en = .ok rs en' → rs.length = 0 := fun en rs en' h => by cases h; rfl
theorem consA_len {n : Nat} {fs : M (List R)} (h : ∀ en rs en', fs en = .ok rs en' → rs.length = n) : ∀ en rs en', consA fa fs en = .ok rs en' → rs.length = n + 1 := fun en rs en' e => by
  unfold consA M.bnd at e
  cases q : fa en with
  | ok r en1 =>
    simp only [q] at e
    cases q2 : fs en1 with
    | ok rs' en2 =>
      simp only [q2] at e
      cases e
      rw [List.length_cons, h _ _ _ q2]
    | err _ _ => simp only [q2] at e; cases e
    | bad => simp only [q2] at e; cases e
  | err _ _ => simp only [q] at e; cases e
  | bad => simp only [q] at e; cases e
def blkB (N : List Str) (sc scope : Scope) (own : List (Str × Nat)) : Bool :=
  (scope.kind == .function) && (scope.names.all fun y => scope.names.lookup y.1 == some y.2) && (own.all fun p => N[p.2]? == some p.1) && (scope.names.all fun y => y.2 != .free || (sc.names.lookup y.1 == some .cell || sc.names.lookup y.1 == some .free)) &&
    scope.names.all fun y => !(y.2 == .local || y.2 == .cell) || (own.map (·.1)).contains y.1 || !N.contains y.1
theorem blk_ok {N : List Str} {sc scope : Scope} {own : List (Str × Nat)} (h : blkB N sc scope own = true) : BlkOk N sc scope own := by
  unfold blkB at h
  simp only [Bool.and_eq_true] at h
  obtain ⟨⟨⟨⟨h1, h2⟩, h3⟩, h4⟩, h5⟩ := h
  refine ⟨eq_of_beq h1, fun y hy => eq_of_beq (List.all_eq_true.mp h2 y hy), fun q hq => eq_of_beq (List.all_eq_true.mp h3 q hq), fun y hy e => ?_, fun y hy e => ?_⟩
  · have := List.all_eq_true.mp h4 y hy
    rw [Bool.or_eq_true, Bool.or_eq_true, e] at this
    rcases this with z | z | z
    · exact absurd z (by decide)
    · exact .inl (eq_of_beq z)
    · exact .inr (eq_of_beq z)
  · have := List.all_eq_true.mp h5 y hy
    rw [Bool.or_eq_true, Bool.or_eq_true, Bool.not_eq_true', Bool.not_eq_true'] at this
    rcases this with (z | z) | z
    · rcases e with e | e <;> rw [e] at z <;> exact absurd z (by decide)
    · exact .inl (List.contains_iff_mem.mp z)
    · exact .inr fun m => by rw [List.contains_iff_mem.mpr m] at z; cases z
end
end Fw
set_option Elab.async false
set_option linter.all false
set_option maxRecDepth 100000
set_option maxHeartbeats 4000000
namespace Fw
open PySem PySem.Spec PyProof.Rows PySem.W PySem.Calls L2
/-! ### the end -/
/-- the script's slot -/
def scr (b : Bool) (ns : List Int) : Sl := if b then .v (.lst (ns.map D.int)) else .mu .lck (.lst (ns.map D.int))
theorem law_sp {K : PySem.W.Frag} {mg : Str → Option Value} {H : Hp} {a : Addr} {ns : List Int} {F : Fn} (hS : SqL K H a (ns.map V.int)) (hF : ∀ b, ∃ os, F [scr b ns] = .ok (.v (.bl true)) os) : spD K mg 1 F [.ref a] H (fun v _ => v = .bl true) fun _ _ _ => False := by
  have go : ∀ b, EnR K mg ([V.ref a].map some) H [scr b ns] → spD K mg 1 F [.ref a] H (fun v _ => v = .bl true) fun _ _ _ => False := fun b E => by
    obtain ⟨os, e⟩ := hF b
    refine ⟨rfl, [scr b ns], E, fun i k d h hk => ?_, ?_⟩
    · cases i with
      | zero =>
        simp only [List.getElem?_cons_zero, Option.some.injEq] at h
        unfold scr at h
        split at h
        · cases h
        · cases h; cases hk
      | succ i => simp at h
    · rw [e]
      intro v H' l s r
      have r : Dr K mg H' v (.bl true) := r
      cases r
      rfl
  have base : ∀ b, (b = true → FzL K H a (ns.map V.int)) → (b = false → H a = some (.lst (ns.map V.int))) → EnR K mg ([V.ref a].map some) H [scr b ns] := fun b h1 h2 => by
    refine ⟨rfl, fun i d h => ?_, fun i k d h => ?_, fun i j x k d k' d' h1 h2 q1 q2 => ?_⟩
    · cases i with
      | succ i => simp at h
      | zero =>
        simp only [List.getElem?_cons_zero, Option.some.injEq] at h
        unfold scr at h
        split at h
        · next hb => cases h; exact ⟨.ref a, rfl, .lst (h1 hb) DrL.of_ints⟩
        · cases h
    · cases i with
      | succ i => simp at h
      | zero =>
        simp only [List.getElem?_cons_zero, Option.some.injEq] at h
        unfold scr at h
        split at h
        · cases h
        · next hb => cases h; exact ⟨a, rfl, _, h2 (by simpa using hb), DrL.of_ints⟩
    · have z : ∀ {i : Nat} {k : Mk} {d : D}, [scr b ns][i]? = some (.mu k d) → i = 0 := fun {i k d} h => by
        cases i with
        | zero => rfl
        | succ i => simp at h
      rw [z h1, z h2]
  rcases hS with (h | ⟨o, h⟩) | h
  · exact go false (base false (fun z => by cases z) fun _ => h)
  · exact go true (base true (fun _ => .inl ⟨o, h⟩) fun z => by cases z)
  · exact go true (base true (fun _ => .inr h) fun z => by cases z)
/-- a law's walk where exceptions may lie behind calls -/
theorem walk_w {l : PySem.W.OpenLaw} {n k : Nat} {q : Program} {loose : List Str} {XP : (Str → Option Value) → Heap → Prop} {YP : World → Heap → Prop} {d : DefRec} {CX : World → CXT} {x : Str} (hn : l.most = some n) (hn2 : n ≤ sizeLine) (hdf : d.params.defaults = []) (hr : Room k callerA)
    (F : ∀ (w : World) (mg : Str → Option Value) (fa : Addr) (h : Heap), YP w h → h.Ns mainGlobals mg → mg d.name = some (.ref fa) → ∃ (K : PySem.W.Frag) (fd : FuncData) (sp : Sp), K.In h ∧ (∀ (s : Shared) (u : Value), BindsTo s fd ⟨[u], []⟩ [(x, u)]) ∧
        (∀ (H : Hp) (a : Addr) (ns : List Int), ns.length ≤ n → Only H → SqL K H a (ns.map V.int) → sp [.ref a] H (fun v _ => v = .bl true) fun _ _ _ => False) ∧ ∀ base : Heap, K.In base → base.Ns mainGlobals mg → FnOk l.prog w K mg base (CX w) k fa fd [x] sp)
    (hCX : ∀ (w : World) (H : Hp) (s : Shared) (e : Value) (s' : Shared), CX w [] H s (fun _ _ _ => False) e s' → False) : PySem.W.WalkO q loose XP YP l.row.toRowW d [] (fun f vs => PySem.call f vs) := by
  refine Att.attach_call hn hdf fun w s₀ s₁ mg mb fa o pm cd doc a vs ns G Y ho hd hcd hmg hobj hints hlen hg => ?_
  obtain ⟨K, fd, sp, KX, hb, hsp, hF⟩ := F w mg fa _ Y G.T.g hmg
  exact law_call KX G.T.g G.T.b G.T.builtins G.T.nolimit hg hobj hints (Nat.le_trans hlen hn2) hr hF hb (fun H hO hS => hsp H a ns hlen hO hS) fun H e s' => hCX w H s₁ e s'
end Fw
set_option Elab.async false
set_option linter.all false
set_option maxRecDepth 100000
set_option maxHeartbeats 4000000
namespace Fw
open PySem PySem.Spec PyProof.Rows L2

/-! ### plain laws: comprehensions -/
section
variable {vs : List Nat} {g : TgF} {ft : M Bool} {fe : M D}
theorem lcL_inv {all : List D} (I : Nat → En → List D → Prop)
    (step : ∀ i d en acc, all[i]? = some d → I i en acc → ∃ en1 en2 b, g d en = some en1 ∧ ft en1 = .ok b en2 ∧ if b = true then ∃ x en3, fe en2 = .ok x en3 ∧ I (i + 1) (wipeE en3 vs) (acc ++ [x]) else I (i + 1) (wipeE en2 vs) acc) :
    ∀ k i en acc, i + k = all.length → I i en acc → ∃ r en', lcL vs g ft fe (all.drop i) en = .ok r en' ∧ I all.length en' (acc ++ r)
  | 0, i, en, acc, hk, h => by
    have e : i = all.length := by omega
    subst e
    rw [List.drop_length]
    exact ⟨[], en, rfl, by rw [List.append_nil]; exact h⟩
  | k + 1, i, en, acc, hk, h => by
    have hi : i < all.length := by omega
    have hg : all[i]? = some all[i] := List.getElem?_eq_getElem hi
    obtain ⟨en1, en2, b, h1, h2, h3⟩ := step i _ en acc hg h
    rw [List.drop_eq_getElem_cons hi]
    unfold lcL M.bnd tgM
    simp only [h1, h2]
    cases b with
    | true =>
      simp only [if_true] at h3 ⊢
      obtain ⟨x, en3, h4, h5⟩ := h3
      simp only [h4]
      obtain ⟨r, en', e1, e2⟩ := lcL_inv I step k (i + 1) (wipeE en3 vs) (acc ++ [x]) (by omega) h5
      rw [e1]
      exact ⟨x :: r, en', rfl, by rw [List.append_assoc] at e2; exact e2⟩
    | false =>
      simp only [Bool.false_eq_true, if_false] at h3 ⊢
      exact lcL_inv I step k (i + 1) (wipeE en2 vs) acc (by omega) h3
/-- one value an item; what is known stays known -/
theorem lcL_rel {ds : List D} {en : En} (I : Nat → En → Prop) (Rl : D → D → Prop) (h0 : I 0 en) (step : ∀ i d en, ds[i]? = some d → I i en → ∃ en1 x en3, g d en = some en1 ∧ fe en1 = .ok x en3 ∧ Rl d x ∧ I (i + 1) (wipeE en3 vs)) :
    ∃ r en', lcL vs g yesM fe ds en = .ok r en' ∧ I ds.length en' ∧ r.length = ds.length ∧ ∀ (i : Nat) d x, ds[i]? = some d → r[i]? = some x → Rl d x := by
  obtain ⟨r, en', h1, h2, h3, h4⟩ := lcL_inv (vs := vs) (g := g) (ft := yesM) (fe := fe) (all := ds) (fun i en acc => I i en ∧ acc.length = i ∧ ∀ (j : Nat) d x, ds[j]? = some d → acc[j]? = some x → Rl d x) (fun i d en acc hd ⟨q1, q2, q3⟩ => by
    obtain ⟨en1, x, en3, e1, e2, e3, e4⟩ := step i d en hd q1
    refine ⟨en1, en1, true, e1, rfl, ?_⟩
    rw [if_pos rfl]
    refine ⟨x, en3, e2, e4, by rw [List.length_append, q2]; rfl, fun j d' x' hd' hx' => ?_⟩
    by_cases hj : j < acc.length
    · rw [List.getElem?_append_left hj] at hx'; exact q3 j d' x' hd' hx'
    · rw [List.getElem?_append_right (by omega)] at hx'
      have : j = i := by
        have hlt := (List.getElem?_eq_some_iff.mp hx').1
        simp at hlt; omega
      subst this
      rw [q2, Nat.sub_self] at hx'
      cases hx'
      rw [hd] at hd'; cases hd'
      exact e3) ds.length 0 en [] (by omega) ⟨h0, rfl, fun j d x _ hx => by simp at hx⟩
  rw [List.drop_zero] at h1
  rw [List.nil_append] at h3 h4
  exact ⟨r, en', h1, h2, h3, h4⟩
theorem lcL_map {ds : List D} {en : En} (f : D → D) (h : ∀ d ∈ ds, ∃ en1 en3, g d en = some en1 ∧ fe en1 = .ok (f d) en3 ∧ wipeE en3 vs = en) : lcL vs g yesM fe ds en = .ok (ds.map f) en := by
  induction ds with
  | nil => rfl
  | cons d ds ih =>
    obtain ⟨en1, en3, h1, h2, h3⟩ := h d List.mem_cons_self
    have ih := ih fun x hx => h x (List.mem_cons_of_mem _ hx)
    have hy : yesM en1 = .ok true en1 := rfl
    unfold lcL M.bnd tgM
    simp only [h1, hy, h2, h3, if_true]
    rw [ih]
    rfl
theorem lcL_filt {ds : List D} {en : En} (p : D → Bool) (f : D → D) (h : ∀ d ∈ ds, ∃ en1 en2, g d en = some en1 ∧ ft en1 = .ok (p d) en2 ∧ (p d = true → ∃ en3, fe en2 = .ok (f d) en3 ∧ wipeE en3 vs = en) ∧ (p d = false → wipeE en2 vs = en)) :
    lcL vs g ft fe ds en = .ok ((ds.filter p).map f) en := by
  induction ds with
  | nil => rfl
  | cons d ds ih =>
    obtain ⟨en1, en2, h1, h2, h3⟩ := h d List.mem_cons_self
    have ih := ih fun x hx => h x (List.mem_cons_of_mem _ hx)
    unfold lcL M.bnd tgM
    simp only [h1, h2]
    cases q : p d with
    | true =>
      obtain ⟨en3, h4, h5⟩ := h3.1 q
      simp only [h4, h5, if_true]
      rw [ih, List.filter_cons_of_pos q]
      rfl
    | false =>
      simp only [Bool.false_eq_true, if_false]
      rw [h3.2 q, ih, List.filter_cons_of_neg (by simp [q])]
/-- the block's environment -/
def lockE (en : En) : Option Nat → En
  | none => en
  | some i => match en[i]? with
    | some (.mu _ d) => en.set i (.mu .lck d)
    | _ => en
theorem rest_wipe (en : En) : rest en (wipeE en vs) vs = en := by
  apply List.ext_getElem?
  intro i
  rw [rest_get (wipeE_len en vs)]
  split
  · rfl
  · next h => rw [wipeE_get, if_neg h]
theorem lcM_none {src : M Src} {ds : List D} {en en1 en2 : En} {r : List D} (hs : src en = .ok (ds, none) en1) (h : lcL vs g ft fe ds (wipeE en1 vs) = .ok r en2) : lcM src vs g ft fe en = .ok (.fr (.lst r)) (rest en1 en2 vs) := by
  unfold lcM M.bnd
  simp only [hs, withSrc, h]
theorem lcM_some {src : M Src} {ds : List D} {en en1 en2 : En} {r : List D} {i : Nat} {k : Mk} {d : D} (hs : src en = .ok (ds, some i) en1) (hi : en1[i]? = some (.mu k d)) (h : lcL vs g ft fe ds (wipeE (en1.set i (.mu .lck d)) vs) = .ok r en2) :
    lcM src vs g ft fe en = .ok (.fr (.lst r)) ((rest (en1.set i (.mu .lck d)) en2 vs).set i (.mu k d)) := by
  unfold lcM M.bnd
  simp only [hs, withSrc, lockS, hi, h]
/-- nothing changes -/
theorem lcM_none' {src : M Src} {ds : List D} {en en1 : En} {r : List D} (hs : src en = .ok (ds, none) en1) (h : lcL vs g ft fe ds (wipeE en1 vs) = .ok r (wipeE en1 vs)) : lcM src vs g ft fe en = .ok (.fr (.lst r)) en1 := by
  rw [lcM_none hs h, rest_wipe]
theorem lcM_some' {src : M Src} {ds : List D} {en en1 : En} {r : List D} {i : Nat} {k : Mk} {d : D} (hs : src en = .ok (ds, some i) en1) (hi : en1[i]? = some (.mu k d)) (h : lcL vs g ft fe ds (wipeE (en1.set i (.mu .lck d)) vs) = .ok r (wipeE (en1.set i (.mu .lck d)) vs)) :
    lcM src vs g ft fe en = .ok (.fr (.lst r)) en1 := by
  rw [lcM_some hs hi h, rest_wipe, List.set_set]
  have hl := (List.getElem?_eq_some_iff.mp hi).1
  congr 1
  apply List.ext_getElem?
  intro j
  by_cases hj : i = j
  · subst hj; rw [List.getElem?_set_self hl, hi]
  · rw [List.getElem?_set_ne hj]
end

/-! ### loops -/
section
variable {g : TgF} {body : S}
theorem forL_inv {all : List D} (I : Nat → En → Prop) (Rt : R → En → Prop) (step : ∀ i d en, all[i]? = some d → I i en → ∃ en1 fl en2, g d en = some en1 ∧ body en1 = .ok fl en2 ∧ (match fl with
      | .nx => I (i + 1) en2
      | .ct => I (i + 1) en2
      | .rt r => Rt r en2
      | .bk => False)) :
    ∀ k i en, i + k = all.length → I i en → (∃ en', forL g body (all.drop i) en = .ok .nx en' ∧ I all.length en') ∨ ∃ r en', forL g body (all.drop i) en = .ok (.rt r) en' ∧ Rt r en'
  | 0, i, en, hk, h => by
    have e : i = all.length := by omega
    subst e
    rw [List.drop_length]
    exact .inl ⟨en, rfl, h⟩
  | k + 1, i, en, hk, h => by
    have hi : i < all.length := by omega
    obtain ⟨en1, fl, en2, h1, h2, h3⟩ := step i _ en (List.getElem?_eq_getElem hi) h
    rw [List.drop_eq_getElem_cons hi]
    unfold forL M.bnd tgM
    simp only [h1, h2]
    cases fl with
    | nx => exact forL_inv I Rt step k (i + 1) en2 (by omega) h3
    | ct => exact forL_inv I Rt step k (i + 1) en2 (by omega) h3
    | rt r => exact .inr ⟨r, en2, rfl, h3⟩
    | bk => exact h3.elim
/-- no way out but the end -/
theorem forL_end {all : List D} {en : En} (I : Nat → En → Prop) (h0 : I 0 en) (step : ∀ i d en, all[i]? = some d → I i en → ∃ en1 en2, g d en = some en1 ∧ body en1 = .ok .nx en2 ∧ I (i + 1) en2) : ∃ en', forL g body all en = .ok .nx en' ∧ I all.length en' := by
  rcases forL_inv (g := g) (body := body) (all := all) I (fun _ _ => False) (fun i d en hd hI => by
    obtain ⟨en1, en2, h1, h2, h3⟩ := step i d en hd hI
    exact ⟨en1, .nx, en2, h1, h2, h3⟩) all.length 0 en (by omega) h0 with h | ⟨_, _, _, h⟩
  · rw [List.drop_zero] at h; exact h
  · exact h.elim
theorem whileS_inv {c : M Bool} (I : En → Prop) (μ : En → Nat) (Dn : En → Prop) (step : ∀ en, I en → (∃ en', c en = .ok false en' ∧ Dn en') ∨ ∃ en1 en2, c en = .ok true en1 ∧ body en1 = .ok .nx en2 ∧ I en2 ∧ μ en2 < μ en) :
    ∀ n en, μ en < n → I en → ∃ en', whileS c body n en = .ok .nx en' ∧ Dn en'
  | 0, en, h, _ => by omega
  | n + 1, en, h, hI => by
    rcases step en hI with ⟨en', h1, h2⟩ | ⟨en1, en2, h1, h2, h3, h4⟩
    · refine ⟨en', ?_, h2⟩
      unfold whileS M.bnd
      simp only [h1, Bool.false_eq_true, if_false]
      rfl
    · obtain ⟨en', e1, e2⟩ := whileS_inv I μ Dn step n en2 (by omega) h3
      refine ⟨en', ?_, e2⟩
      unfold whileS M.bnd
      simp only [h1, h2, if_true]
      exact e1
end
/-! ### what types are -/
theorem kit_int_int : kitB "int" "int" = some true := by decide +kernel
end Fw
set_option Elab.async false
set_option linter.all false
set_option maxRecDepth 100000
set_option maxHeartbeats 4000000
namespace Fw
open PySem PySem.Spec PyProof.Rows L2

/-! ### what the operators give -/
theorem addG_int (i j : Int) : addG (.int i) (.int j) = some (.v (.int (i + j))) := rfl
theorem subI_int (i j : Int) : subI (.int i) (.int j) = some (.v (.int (i - j))) := rfl
theorem eqG_int (i j : Int) : eqG (.int i) (.int j) = some (.v (.bl (i == j))) := rfl
theorem neG_int (i j : Int) : neG (.int i) (.int j) = some (.v (.bl (!(i == j)))) := rfl
theorem eqG_bl (i j : Bool) : eqG (.bl i) (.bl j) = some (.v (.bl (i == j))) := rfl
theorem neG_bl (i j : Bool) : neG (.bl i) (.bl j) = some (.v (.bl (!(i == j)))) := rfl
theorem cmpI_int (p : Int → Int → Bool) (i j : Int) : cmpI p (.int i) (.int j) = some (.v (.bl (p i j))) := rfl
theorem modI_pos {i j : Int} (h : 0 < j) : modI (.int i) (.int j) = some (.v (.int (i % j))) := by
  unfold modI; simp only; rw [if_pos (by omega), Int.fmod_eq_emod_of_nonneg i (by omega)]
theorem fdivI_pos {i j : Int} (h : 0 < j) (h2 : bitsOf j < 9000) : fdivI (.int i) (.int j) = some (.v (.int (i / j))) := by
  unfold fdivI; simp only; rw [if_pos ⟨by omega, h2⟩, Int.fdiv_eq_ediv_of_nonneg i (by omega)]
theorem bits_lt {i : Int} {n : Nat} (h : i.natAbs < 2 ^ n) (hn : 0 < n) : bitsOf i < n := by
  unfold bitsOf
  by_cases h0 : i.natAbs = 0
  · rw [h0]; simpa using hn
  · exact (Nat.log2_lt h0).mpr h
theorem bits64 {i : Int} (h : -(2 ^ 64) < i) (h2 : i < 2 ^ 64) : bitsOf i < 64 := bits_lt (by omega) (by omega)
theorem mulG_int {i j : Int} (h : bitsOf i + bitsOf j < 1000000) : mulG (.int i) (.int j) = some (.v (.int (i * j))) := by
  show mulI (.int i) (.int j) = _
  unfold mulI; simp only; rw [if_pos h]
theorem mulG_small {i j : Int} (h : -(2 ^ 64) < i) (h2 : i < 2 ^ 64) (h3 : -(2 ^ 64) < j) (h4 : j < 2 ^ 64) : mulG (.int i) (.int j) = some (.v (.int (i * j))) :=
  mulG_int (by have := bits64 h h2; have := bits64 h3 h4; omega)
theorem powI_18 : powI (.int 10) (.int 18) = some (.v (.int 1000000000000000000)) := rfl
/-- items of written lists -/
theorem ixG_lst {ds : List D} {i : Nat} {d : D} (h : ds[i]? = some d) : ixG (.lst ds) (.int (i : Int)) = some (.v d) := by
  have hi := (List.getElem?_eq_some_iff.mp h).1
  unfold ixG
  simp only
  unfold atI ixN
  rw [if_pos (by omega), if_pos (by omega)]
  simp only [Option.bind, Int.toNat_natCast, h, Option.map]
theorem ixG_tup {ds : List D} {i : Nat} {d : D} (h : ds[i]? = some d) : ixG (.tup ds) (.int (i : Int)) = some (.v d) := by
  have hi := (List.getElem?_eq_some_iff.mp h).1
  unfold ixG
  simp only
  unfold atI ixN
  rw [if_pos (by omega), if_pos (by omega)]
  simp only [Option.bind, Int.toNat_natCast, h, Option.map]
theorem ixN_nat {n i : Nat} (h : i < n) : ixN n (i : Int) = some i := by
  unfold ixN
  rw [if_pos (by omega), if_pos (by omega), Int.toNat_natCast]
theorem ix5_0 (a b c d e : D) : ixG (.lst [a, b, c, d, e]) (.int 0) = some (.v a) := rfl
theorem ix5_1 (a b c d e : D) : ixG (.lst [a, b, c, d, e]) (.int 1) = some (.v b) := rfl
theorem ix5_2 (a b c d e : D) : ixG (.lst [a, b, c, d, e]) (.int 2) = some (.v c) := rfl
theorem ix5_3 (a b c d e : D) : ixG (.lst [a, b, c, d, e]) (.int 3) = some (.v d) := rfl
theorem ix5_4 (a b c d e : D) : ixG (.lst [a, b, c, d, e]) (.int 4) = some (.v e) := rfl
theorem ixN5_1 : ixN 5 1 = some 1 := rfl
theorem ixN5_2 : ixN 5 2 = some 2 := rfl
theorem ixN5_3 : ixN 5 3 = some 3 := rfl
theorem ixN5_4 : ixN 5 4 = some 4 := rfl

/-! ### what types are -/
theorem kt_NoneType_int : kitB "NoneType" "int" = some false := by decide +kernel
theorem kt_NoneType_bool : kitB "NoneType" "bool" = some false := by decide +kernel
theorem kt_NoneType_str : kitB "NoneType" "str" = some false := by decide +kernel
theorem kt_NoneType_tuple : kitB "NoneType" "tuple" = some false := by decide +kernel
theorem kt_NoneType_list : kitB "NoneType" "list" = some false := by decide +kernel
theorem kt_NoneType_dict : kitB "NoneType" "dict" = some false := by decide +kernel
theorem kt_bool_int : kitB "bool" "int" = some true := by decide +kernel
theorem kt_bool_bool : kitB "bool" "bool" = some true := by decide +kernel
theorem kt_bool_str : kitB "bool" "str" = some false := by decide +kernel
theorem kt_bool_tuple : kitB "bool" "tuple" = some false := by decide +kernel
theorem kt_bool_list : kitB "bool" "list" = some false := by decide +kernel
theorem kt_bool_dict : kitB "bool" "dict" = some false := by decide +kernel
theorem kt_int_int : kitB "int" "int" = some true := by decide +kernel
theorem kt_int_bool : kitB "int" "bool" = some false := by decide +kernel
theorem kt_int_str : kitB "int" "str" = some false := by decide +kernel
theorem kt_int_tuple : kitB "int" "tuple" = some false := by decide +kernel
theorem kt_int_list : kitB "int" "list" = some false := by decide +kernel
theorem kt_int_dict : kitB "int" "dict" = some false := by decide +kernel
theorem kt_str_int : kitB "str" "int" = some false := by decide +kernel
theorem kt_str_bool : kitB "str" "bool" = some false := by decide +kernel
theorem kt_str_str : kitB "str" "str" = some true := by decide +kernel
theorem kt_str_tuple : kitB "str" "tuple" = some false := by decide +kernel
theorem kt_str_list : kitB "str" "list" = some false := by decide +kernel
theorem kt_str_dict : kitB "str" "dict" = some false := by decide +kernel
theorem kt_tuple_int : kitB "tuple" "int" = some false := by decide +kernel
theorem kt_tuple_bool : kitB "tuple" "bool" = some false := by decide +kernel
theorem kt_tuple_str : kitB "tuple" "str" = some false := by decide +kernel
theorem kt_tuple_tuple : kitB "tuple" "tuple" = some true := by decide +kernel
theorem kt_tuple_list : kitB "tuple" "list" = some false := by decide +kernel
theorem kt_tuple_dict : kitB "tuple" "dict" = some false := by decide +kernel
theorem kt_list_int : kitB "list" "int" = some false := by decide +kernel
theorem kt_list_bool : kitB "list" "bool" = some false := by decide +kernel
theorem kt_list_str : kitB "list" "str" = some false := by decide +kernel
theorem kt_list_tuple : kitB "list" "tuple" = some false := by decide +kernel
theorem kt_list_list : kitB "list" "list" = some true := by decide +kernel
theorem kt_list_dict : kitB "list" "dict" = some false := by decide +kernel

/-! ### the hand: what draws come of -/
def hand5 (cells : List Int) (p h2 h3 h4 : Int) : D := .lst [.lst (cells.map D.int), .int p, .int h2, .int h3, .int h4]
def lastPart (h3 h4 lim : Int) : Int :=
  (((((h3 + 7919 * h4) * 48271) % 2147483647 * ((((h3 + 7919 * h4) * 48271) % 2147483647) / 1009 + 69621)) % 2147483647) * ((((h3 + 7919 * h4) * 48271) % 2147483647 * ((((h3 + 7919 * h4) * 48271) % 2147483647) / 1009 + 69621)) % 2147483647 / 2003 + 40692) % 2147483399) / 16 % lim
structure HOk (m : Nat) (hd : D) : Prop where
  ex : ∃ cells p h2 h3 h4, hd = hand5 cells p h2 h3 h4 ∧ (∀ c ∈ cells, (0 : Int) ≤ c) ∧ 0 ≤ p ∧ 0 ≤ h2 ∧ 0 ≤ h3 ∧ h3 < 2147483648 ∧ 0 ≤ h4 ∧ h4 ≤ m
theorem HOk.mono {m n : Nat} {hd : D} (h : HOk m hd) (hn : m ≤ n) : HOk n hd := by
  obtain ⟨cells, p, h2, h3, h4, e, a1, a2, a3, a4, a5, a6, a7⟩ := h.ex
  exact ⟨cells, p, h2, h3, h4, e, a1, a2, a3, a4, a5, a6, by omega⟩
end Fw
set_option Elab.async false
set_option linter.all false
set_option maxRecDepth 100000
set_option maxHeartbeats 4000000
namespace Fw
open PySem PySem.Spec PyProof.Rows L2

/-! ### one step at a time -/
def bd {α β : Type} (o : Out α) (f : α → En → Out β) : Out β := match o with
  | .ok a e => f a e
  | .err x e => .err x e
  | .bad => .bad
section
variable {α β : Type} {en e : En} {i j k : Nat} {d : D} {ds : List D} {a b c m : M R} {ca cb : M Bool} {sa sb : S} {ga gb : M (List R)} {va vb : M (List D)} {fa fb : M D}
theorem bd_ok {x : α} {f : α → En → Out β} : bd (.ok x e) f = f x e := rfl
theorem bd_bad {f : α → En → Out β} : bd .bad f = .bad := rfl
theorem bd_err {x : Str} {f : α → En → Out β} : bd (.err x e) f = .err x e := rfl
theorem x_seqS : seqS sa sb en = bd (sa en) fun fl e => match fl with
  | .nx => sb e
  | f => .ok f e := by
  unfold seqS bd M.bnd
  cases sa en with
  | ok fl e => cases fl <;> rfl
  | _ => rfl
theorem x_nopS : nopS en = .ok .nx en := rfl
theorem x_badS : badS en = .bad := rfl
theorem x_bkS : bkS en = .ok .bk en := rfl
theorem x_ctS : ctS en = .ok .ct en := rfl
theorem x_ifM {x y : M α} : ifM ca x y en = bd (ca en) fun k e => match k with
  | true => x e
  | false => y e := by
  unfold ifM bd M.bnd
  cases ca en with
  | ok fl e => cases fl <;> rfl
  | _ => rfl
theorem x_ifS : ifS ca sa sb en = bd (ca en) fun k e => match k with
  | true => sa e
  | false => sb e := x_ifM
theorem x_dropS : dropS m en = bd (m en) fun _ e => .ok .nx e := rfl
theorem x_retS : retS m en = bd (m en) fun r e => retR r e := rfl
theorem x_retR_v : retR (.v d) en = .ok (.rt (.v d)) en := rfl
theorem x_retR_fr : retR (.fr d) en = .ok (.rt (.fr d)) en := rfl
theorem x_retR_al : retR (.al i) en = match en[i]? with
    | some (.v d) => .ok (.rt (.v d)) en
    | some (.mu .own d) => .ok (.rt (.fr d)) (en.set i .no)
    | _ => .bad := rfl
theorem x_retN : retN en = .ok (.rt (.v .non)) en := rfl
theorem x_setS : setS i m en = bd (m en) fun r e => bd (setR i r e) fun _ e2 => .ok .nx e2 := rfl
theorem x_setR_v : setR i (.v d) en = if free? en i = true then .ok () (en.set i (.v d)) else .bad := rfl
theorem x_setR_fr : setR i (.fr d) en = if free? en i = true then .ok () (en.set i (.mu .own d)) else .bad := rfl
theorem x_setR_al : setR i (.al j) en = if free? en i = true then (match en[j]? with
    | some (.v d) => .ok () (en.set i (.v d))
    | some (.mu .own d) => if i = j then .ok () en else .ok () ((en.set j .no).set i (.mu .own d))
    | _ => .bad) else .bad := rfl
theorem x_varM : varM i en = match en[i]? with
  | some (.v d) => .ok (.v d) en
  | some (.mu _ _) => .ok (.al i) en
  | _ => .bad := rfl
theorem x_litM : litM d en = .ok (.v d) en := rfl
theorem x_liftO_v : liftO (some (.v d)) en = .ok (.v d) en := rfl
theorem x_liftO_fr : liftO (some (.fr d)) en = .ok (.fr d) en := rfl
theorem x_liftO_n : liftO none en = .bad := rfl
theorem x_bin2 {g : D → D → Option R} : bin2 g a b en = bd (a en) fun r e => bd (b e) fun s e2 => peek2 g r s e2 := rfl
theorem x_peek2 {g : D → D → Option R} {r s : R} : peek2 g r s en = match peek en r, peek en s with
  | some d, some e => liftO (g d e) en
  | _, _ => .bad := rfl
theorem x_un1 {g : D → Option R} : un1 g a en = bd (a en) fun r e => match peek e r with
  | some d => liftO (g d) e
  | none => .bad := rfl
theorem x_asB {k : Bool} : asB (.v (.bl k)) en = .ok k en := rfl
theorem x_toB : toB m en = bd (m en) fun r e => asB r e := rfl
theorem x_andM : Fw.andM ca cb en = bd (ca en) fun k e => match k with
  | true => cb e
  | false => .ok false e := by
  unfold Fw.andM bd M.bnd
  cases ca en with
  | ok fl e => cases fl <;> rfl
  | _ => rfl
theorem x_orM : Fw.orM ca cb en = bd (ca en) fun k e => match k with
  | true => .ok true e
  | false => cb e := by
  unfold Fw.orM bd M.bnd
  cases ca en with
  | ok fl e => cases fl <;> rfl
  | _ => rfl
theorem x_notM : Fw.notM ca en = bd (ca en) fun k e => .ok (!k) e := rfl
theorem x_andV : andV a b en = bd (toB a en) fun k e => match k with
  | true => b e
  | false => .ok (.v (.bl false)) e := by
  unfold andV bd M.bnd
  cases toB a en with
  | ok fl e => cases fl <;> rfl
  | _ => rfl
theorem x_orV : orV a b en = bd (toB a en) fun k e => match k with
  | true => .ok (.v (.bl true)) e
  | false => b e := by
  unfold orV bd M.bnd
  cases toB a en with
  | ok fl e => cases fl <;> rfl
  | _ => rfl
theorem x_notV : notV a en = bd (toB a en) fun k e => .ok (.v (.bl (!k))) e := rfl
theorem x_nilA : nilA en = .ok [] en := rfl
theorem x_consA : consA a ga en = bd (a en) fun r e => bd (ga e) fun rs e2 => .ok (r :: rs) e2 := rfl
theorem x_nilV : nilV en = .ok [] en := rfl
theorem x_consV : consV fa va en = bd (fa en) fun r e => bd (va e) fun rs e2 => .ok (r :: rs) e2 := rfl
theorem x_tupM : tupM va en = bd (va en) fun ds e => if ds.length ≤ sizeLine then .ok (.v (.tup ds)) e else .bad := rfl
theorem x_lstM : lstM va en = bd (va en) fun ds e => if ds.length ≤ sizeLine then .ok (.fr (.lst ds)) e else .bad := rfl
theorem x_callM {g : List D → Option R} : callM g ga en = bd (ga en) fun rs e => match peekL e rs with
  | some ds => liftO (g ds) e
  | none => .bad := rfl
theorem x_toV : toV m en = bd (m en) fun r e => thaw e r := rfl
theorem x_toP : toP m en = bd (m en) fun r e => toPr r e := rfl
theorem x_toPr_v : toPr (.v d) en = .ok (.v d) en := rfl
theorem x_toPr_fr : toPr (.fr d) en = .ok (.v d) en := rfl
theorem x_toPr_al : toPr (.al i) en = .ok (.al i) en := rfl
def callR (o : Out R) (rs : List R) (en : En) : Out R := match o with
  | .ok r os => .ok r (putBack en rs os)
  | .err x os => .err x (putBack en rs os)
  | .bad => .bad
theorem callR_ok {r : R} {os : List Sl} {rs : List R} : callR (.ok r os) rs en = .ok r (putBack en rs os) := rfl
theorem x_callF {F : Fn} : callF F ga en = bd (ga en) fun rs e => match argSls e rs with
  | some sls => if nodup? (als rs) = true then callR (F sls) rs e else .bad
  | none => .bad := rfl
/-- a call that goes well -/
theorem call_ok {F : Fn} {rs : List R} {e : En} {sls os : List Sl} {r : R} (h : ga en = .ok rs e) (ha : argSls e rs = some sls) (hn : nodup? (als rs) = true) (hF : F sls = .ok r os) : callF F ga en = .ok r (putBack e rs os) := by
  unfold callF M.bnd
  simp only [h, ha, hn, hF, if_true]
theorem x_isaM {T : String} : isaM T a en = bd (a en) fun r e => match peek e r with
  | some d => (match tyOf d with
    | some t => (match kitB t T with
      | some b => .ok (.v (.bl b)) e
      | none => .bad)
    | none => .bad)
  | none => .bad := rfl
theorem x_chainM {g g' : D → D → Option R} : chainM g g' a b c en = bd (a en) fun r e => bd (b e) fun s e2 => match peek e2 r, peek e2 s with
  | some d, some d' => (match g d d' with
    | some (.v (.bl k)) => (match k with
      | true => bd (c e2) fun u e3 => peek2 g' s u e3
      | false => .ok (.v (.bl false)) e2)
    | _ => .bad)
  | _, _ => .bad := by
  unfold chainM bd M.bnd
  cases a en with
  | ok r e =>
    simp only
    cases b e with
    | ok s e2 =>
      simp only
      cases peek e2 r with
      | none => rfl
      | some d =>
        cases peek e2 s with
        | none => rfl
        | some d' =>
          simp only
          cases g d d' with
          | none => rfl
          | some rr =>
            cases rr with
            | v d0 =>
              cases d0 with
              | bl k => cases k <;> rfl
              | _ => rfl
            | _ => rfl
    | _ => rfl
  | _ => rfl
theorem x_noPartM : noPartM en = .ok none en := rfl
theorem x_partM : partM a en = bd (a en) fun r e => match peek e r with
  | some (.int i) => .ok (some i) e
  | _ => .bad := rfl
theorem x_sliceM {l h : M (Option Int)} : sliceM a l h en = bd (a en) fun r e => bd (l e) fun o e2 => bd (h e2) fun o2 e3 => match peek e3 r with
  | some (.lst xs) => .ok (.fr (.lst (Fw.cutD xs o o2))) e3
  | some (.tup xs) => .ok (.v (.tup (Fw.cutD xs o o2))) e3
  | _ => .bad := rfl
theorem x_setIx : setIx i fa a en = bd (fa en) fun d e0 => match e0[i]? with
  | some (.mu _ _) => bd (a e0) fun r e => (match e[i]?, peek e r with
    | some (.mu .lck _), _ => .bad
    | some (.mu k (.lst ds)), some (.int j) => (match ixN ds.length j with
      | some n => .ok .nx (e.set i (.mu k (.lst (ds.set n d))))
      | none => .bad)
    | _, _ => .bad)
  | _ => .bad := rfl
theorem x_mutM {T : String} {f : D → List D → Option (D × D)} : mutM T i f va en = match en[i]? with
  | some (.mu _ d) => if shOk T d = true then bd (va en) fun ds e => mutK i f ds e else .bad
  | _ => .bad := rfl
theorem x_mutK {f : D → List D → Option (D × D)} : mutK i f ds en = match en[i]? with
  | some (.mu .lck _) => .bad
  | some (.mu k d) => (match f d ds with
    | some (d', x) => .ok (.v x) (en.set i (.mu k d'))
    | none => .bad)
  | _ => .bad := rfl
theorem x_par2 : par2 i j a b en = bd (a en) fun r e => bd (b e) fun s e2 => match plainR e2 r, plainR e2 s with
  | some r, some s => bd (setR i r e2) fun _ e3 => bd (setR j s e3) fun _ e4 => .ok .nx e4
  | _, _ => .bad := rfl
theorem x_par3 : par3 i j k a b c en = bd (a en) fun r e => bd (b e) fun s e2 => bd (c e2) fun u e3 => match plainR e3 r, plainR e3 s, plainR e3 u with
  | some r, some s, some u => bd (setR i r e3) fun _ e4 => bd (setR j s e4) fun _ e5 => bd (setR k u e5) fun _ e6 => .ok .nx e6
  | _, _, _ => .bad := rfl
theorem x_asgS {g : TgF} : asgS g fa en = bd (fa en) fun d e => match g d e with
  | some e2 => .ok .nx e2
  | none => .bad := by
  unfold asgS bd M.bnd tgM
  cases fa en with
  | ok d e =>
    simp only
    cases g d e <;> rfl
  | _ => rfl
theorem x_setD : setD i d en = if free? en i = true then some (en.set i (.v d)) else none := rfl
theorem x_tupG {n : Nat} {gs : List D → En → Option En} : tupG n gs (.tup ds) en = if ds.length = n then gs ds en else none := rfl
theorem x_consG {g : TgF} {gs : List D → En → Option En} : consG g gs (d :: ds) en = match g d en with
  | some e => gs ds e
  | none => none := by
  show (g d en).bind (gs ds) = _
  cases g d en <;> rfl
theorem x_nilG : nilG [] en = some en := rfl
theorem x_seqN : seqN i en = match en[i]? with
  | some (.v (.lst ds)) => .ok (ds, none) en
  | some (.v (.tup ds)) => .ok (ds, none) en
  | some (.mu _ (.lst ds)) => .ok (ds, some i) en
  | _ => .bad := rfl
theorem x_enumN : enumN i en = match en[i]? with
  | some (.v (.lst ds)) => .ok (enumL ds, none) en
  | some (.v (.tup ds)) => .ok (enumL ds, none) en
  | some (.mu _ (.lst ds)) => .ok (enumL ds, some i) en
  | _ => .bad := rfl
theorem x_seqV : seqV fa en = bd (fa en) fun d e => match d with
  | .lst ds => .ok (ds, none) e
  | .tup ds => .ok (ds, none) e
  | _ => .bad := rfl
theorem x_enumI : enumI fa en = bd (fa en) fun d e => match d with
  | .lst xs => .ok (enumL xs, none) e
  | .tup xs => .ok (enumL xs, none) e
  | _ => .bad := rfl
theorem x_zipI : zipI va en = bd (va en) fun ds e => match ds with
  | [.lst xs, .lst ys] => .ok (zipL xs ys, none) e
  | [.tup xs, .tup ys] => .ok (zipL xs ys, none) e
  | _ => .bad := rfl
theorem x_rng1 : rng1 a en = bd (a en) fun r e => match peek e r with
  | some (.int j) => if -16777216 ≤ j ∧ j ≤ 16777216 then .ok (rangeL 0 j.toNat, none) e else .bad
  | _ => .bad := rfl
theorem x_rng2 : rng2 a b en = bd (a en) fun r e => bd (b e) fun s e2 => match peek e2 r, peek e2 s with
  | some (.int i), some (.int j) => if (-8388608 ≤ i ∧ i ≤ 8388608) ∧ -8388608 ≤ j ∧ j ≤ 8388608 then .ok (rangeL i (j - i).toNat, none) e2 else .bad
  | _, _ => .bad := rfl
theorem x_sortSetM : sortSetM a en = bd (a en) fun r e => match peek e r with
  | some (.lst ds) => (match intsOf ds with
    | some ns => if ns.length ≤ 4000 then .ok (.fr (.lst ((ordSet ns).map D.int))) e else .bad
    | none => .bad)
  | _ => .bad := rfl
theorem x_rgM {f : List D → R} : rgM f a b en = bd (a en) fun r e => bd (b e) fun s e2 => match peek e2 r, peek e2 s with
  | some (.int i), some (.int j) => if 0 ≤ i ∧ i ≤ 16777216 ∧ 0 ≤ j ∧ j ≤ 16777216 ∧ (j - i).toNat ≤ sizeLine then .ok (f (rangeL i (j - i).toNat)) e2 else .bad
  | _, _ => .bad := rfl
theorem x_withSrc_none {K : List D → M α} : withSrc (ds, none) K = K ds := rfl
theorem x_forS {src : M Src} {g : TgF} : forS src g sa en = bd (src en) fun p e => withSrc p (forL g sa) e := rfl
/-- a walk over a slot's thing -/
theorem withSrc_some {K : List D → M α} {kk : Mk} {d : D} {x : α} {e2 : En} (h : en[i]? = some (.mu kk d)) (hk : K ds (en.set i (.mu .lck d)) = .ok x e2) : withSrc (ds, some i) K en = .ok x (e2.set i (.mu kk d)) := by
  show lockS i (K ds) en = _
  unfold lockS
  simp only [h, hk]
def free1 : Sl → Bool
  | .mu .ref _ => false
  | .mu .lck _ => false
  | _ => true
theorem x_free0 {s : Sl} {l : En} : free? (s :: l) 0 = free1 s := by cases s <;> first | rfl | (rename_i k _; cases k <;> rfl)
theorem x_freeS {s : Sl} {l : En} : free? (s :: l) (i + 1) = free? l i := rfl
theorem free1_v : free1 (.v d) = true := rfl
theorem free1_no : free1 .no = true := rfl
theorem free1_own : free1 (.mu .own d) = true := rfl
/-- a def's run -/
theorem fn_rt {n : Nat} {body : S} {sls : List Sl} {r : R} {e : En} (h : body (sls ++ List.replicate n .no) = .ok (.rt r) e) (hr : ∀ i, r ≠ .al i) : fnD n body sls = .ok r (outs sls e) := by
  unfold fnD
  rw [h]
  cases r with
  | al i => exact absurd rfl (hr i)
  | _ => rfl
theorem fn_nx {n : Nat} {body : S} {sls : List Sl} {e : En} (h : body (sls ++ List.replicate n .no) = .ok .nx e) : fnD n body sls = .ok (.v .non) (outs sls e) := by
  unfold fnD
  rw [h]
theorem seq_nx {f g : S} {en en1 : En} (h : f en = .ok .nx en1) : seqS f g en = g en1 := by unfold seqS; rw [bnd_ok h]
theorem seq_rt {f g : S} {en en1 : En} {r : R} (h : f en = .ok (.rt r) en1) : seqS f g en = .ok (.rt r) en1 := by unfold seqS; rw [bnd_ok h]
end
end Fw
set_option Elab.async false
set_option linter.all false
set_option maxRecDepth 100000
set_option maxHeartbeats 4000000
namespace Fw
open PySem PySem.Spec PyProof.Rows L2

/-! ### the order of data of one kind -/
mutual
theorem eq_iff : ∀ (t : Ty) (d e : D), t.has d = true → t.has e = true → (D.eq d e = true ↔ d = e)
  | .non, d, e, h, k => by cases d <;> cases e <;> simp_all [Ty.has, D.eq]
  | .int, d, e, h, k => by cases d <;> cases e <;> simp_all [Ty.has, D.eq]
  | .str, d, e, h, k => by cases d <;> cases e <;> simp_all [Ty.has, D.eq]
  | .bl, d, e, h, k => by cases d <;> cases e <;> simp_all [Ty.has, D.eq]
  | .row t, d, e, h, k => by
    cases d with
    | tup xs =>
      cases e with
      | tup ys => simp only [D.eq, D.tup.injEq]; exact eq_row t xs ys (by simpa [Ty.has] using h) (by simpa [Ty.has] using k)
      | _ => simp [Ty.has] at k
    | _ => simp [Ty.has] at h
  | .lrow t, d, e, h, k => by
    cases d with
    | lst xs =>
      cases e with
      | lst ys => simp only [D.eq, D.lst.injEq]; exact eq_row t xs ys (by simpa [Ty.has] using h) (by simpa [Ty.has] using k)
      | _ => simp [Ty.has] at k
    | _ => simp [Ty.has] at h
  | .prd ts, d, e, h, k => by
    cases d with
    | tup xs =>
      cases e with
      | tup ys => simp only [D.eq, D.tup.injEq]; exact eq_prd ts xs ys (by simpa [Ty.has] using h) (by simpa [Ty.has] using k)
      | _ => simp [Ty.has] at k
    | _ => simp [Ty.has] at h
theorem eq_row : ∀ (t : Ty) (xs ys : List D), (∀ x ∈ xs, t.has x = true) → (∀ y ∈ ys, t.has y = true) → (D.eqL xs ys = true ↔ xs = ys)
  | _, [], [], _, _ => by simp [D.eqL]
  | _, [], _ :: _, _, _ => by simp [D.eqL]
  | _, _ :: _, [], _, _ => by simp [D.eqL]
  | t, x :: xs, y :: ys, h, k => by
    simp only [D.eqL, Bool.and_eq_true, List.cons.injEq]
    rw [eq_iff t x y (h x (by simp)) (k y (by simp)), eq_row t xs ys (fun z hz => h z (by simp [hz])) (fun z hz => k z (by simp [hz]))]
theorem eq_prd : ∀ (ts : List Ty) (xs ys : List D), Ty.hasL ts xs = true → Ty.hasL ts ys = true → (D.eqL xs ys = true ↔ xs = ys)
  | [], [], [], _, _ => by simp [D.eqL]
  | [], [], _ :: _, _, k => by simp [Ty.hasL] at k
  | [], _ :: _, _, h, _ => by simp [Ty.hasL] at h
  | _ :: _, [], _, h, _ => by simp [Ty.hasL] at h
  | _ :: _, _ :: _, [], _, k => by simp [Ty.hasL] at k
  | t :: ts, x :: xs, y :: ys, h, k => by
    simp only [Ty.hasL, Bool.and_eq_true] at h k
    simp only [D.eqL, Bool.and_eq_true, List.cons.injEq]
    rw [eq_iff t x y h.1 k.1, eq_prd ts xs ys h.2 k.2]
end
theorem cps_anti : ∀ (xs ys : List Nat), ¬ xs < ys → ¬ ys < xs → xs = ys
  | [], [], _, _ => rfl
  | [], y :: ys, h, _ => absurd (List.nil_lt_cons y ys) h
  | x :: xs, [], _, h => absurd (List.nil_lt_cons x xs) h
  | x :: xs, y :: ys, h, k => by
    rw [List.cons_lt_cons_iff] at h k
    have e : x = y := by
      rcases Nat.lt_trichotomy x y with z | z | z
      · exact absurd (.inl z) h
      · exact z
      · exact absurd (.inl z) k
    subst e
    rw [cps_anti xs ys (fun z => h (.inr ⟨rfl, z⟩)) (fun z => k (.inr ⟨rfl, z⟩))]
mutual
theorem lt_anti : ∀ (t : Ty) (d e : D), t.has d = true → t.has e = true → D.lt d e = false → D.lt e d = false → d = e
  | .non, d, e, h, k, a, b => by cases d <;> cases e <;> simp_all [Ty.has]
  | .int, d, e, h, k, a, b => by
    cases d <;> cases e <;> simp_all [Ty.has, D.lt]
    omega
  | .str, d, e, h, k, a, b => by
    cases d with
    | str x =>
      cases e with
      | str y =>
        simp only [D.lt, decide_eq_false_iff_not] at a b
        have q := cps_anti _ _ a b
        obtain ⟨x⟩ := x
        obtain ⟨y⟩ := y
        simp only at q
        rw [Array.toList_inj.mp q]
      | _ => simp [Ty.has] at k
    | _ => simp [Ty.has] at h
  | .bl, d, e, h, k, a, b => by cases d <;> cases e <;> simp_all [Ty.has, D.lt]; rename_i x y; cases x <;> cases y <;> simp_all
  | .row t, d, e, h, k, a, b => by
    cases d with
    | tup xs =>
      cases e with
      | tup ys => rw [lt_row t xs ys (by simpa [Ty.has] using h) (by simpa [Ty.has] using k) (by simpa [D.lt] using a) (by simpa [D.lt] using b)]
      | _ => simp [Ty.has] at k
    | _ => simp [Ty.has] at h
  | .lrow t, d, e, h, k, a, b => by
    cases d with
    | lst xs =>
      cases e with
      | lst ys => rw [lt_row t xs ys (by simpa [Ty.has] using h) (by simpa [Ty.has] using k) (by simpa [D.lt] using a) (by simpa [D.lt] using b)]
      | _ => simp [Ty.has] at k
    | _ => simp [Ty.has] at h
  | .prd ts, d, e, h, k, a, b => by
    cases d with
    | tup xs =>
      cases e with
      | tup ys => rw [lt_prd ts xs ys (by simpa [Ty.has] using h) (by simpa [Ty.has] using k) (by simpa [D.lt] using a) (by simpa [D.lt] using b)]
      | _ => simp [Ty.has] at k
    | _ => simp [Ty.has] at h
theorem lt_row : ∀ (t : Ty) (xs ys : List D), (∀ x ∈ xs, t.has x = true) → (∀ y ∈ ys, t.has y = true) → D.ltL xs ys = false → D.ltL ys xs = false → xs = ys
  | _, [], [], _, _, _, _ => rfl
  | _, [], _ :: _, _, _, a, _ => by simp [D.ltL] at a
  | _, _ :: _, [], _, _, _, b => by simp [D.ltL] at b
  | t, x :: xs, y :: ys, h, k, a, b => by
    have hx := h x (by simp)
    have hy := k y (by simp)
    simp only [D.ltL] at a b
    by_cases e : x = y
    · subst e
      have ee := (eq_iff t x x hx hx).mpr rfl
      simp only [ee, if_true] at a b
      rw [lt_row t xs ys (fun z hz => h z (by simp [hz])) (fun z hz => k z (by simp [hz])) a b]
    · have e1 : D.eq x y = false := Bool.eq_false_iff.mpr fun z => e ((eq_iff t x y hx hy).mp z)
      have e2 : D.eq y x = false := Bool.eq_false_iff.mpr fun z => e ((eq_iff t y x hy hx).mp z).symm
      simp only [e1, e2, Bool.false_eq_true, if_false] at a b
      exact absurd (lt_anti t x y hx hy a b) e
theorem lt_prd : ∀ (ts : List Ty) (xs ys : List D), Ty.hasL ts xs = true → Ty.hasL ts ys = true → D.ltL xs ys = false → D.ltL ys xs = false → xs = ys
  | [], [], [], _, _, _, _ => rfl
  | [], [], _ :: _, _, k, _, _ => by simp [Ty.hasL] at k
  | [], _ :: _, _, h, _, _, _ => by simp [Ty.hasL] at h
  | _ :: _, [], _, h, _, _, _ => by simp [Ty.hasL] at h
  | _ :: _, _ :: _, [], _, k, _, _ => by simp [Ty.hasL] at k
  | t :: ts, x :: xs, y :: ys, h, k, a, b => by
    simp only [Ty.hasL, Bool.and_eq_true] at h k
    simp only [D.ltL] at a b
    by_cases e : x = y
    · subst e
      have ee := (eq_iff t x x h.1 h.1).mpr rfl
      simp only [ee, if_true] at a b
      rw [lt_prd ts xs ys h.2 k.2 a b]
    · have e1 : D.eq x y = false := Bool.eq_false_iff.mpr fun z => e ((eq_iff t x y h.1 k.1).mp z)
      have e2 : D.eq y x = false := Bool.eq_false_iff.mpr fun z => e ((eq_iff t y x k.1 h.1).mp z).symm
      simp only [e1, e2, Bool.false_eq_true, if_false] at a b
      exact absurd (lt_anti t x y h.1 k.1 a b) e
end
theorem leD_eq (a b : D) : leD a b = !PySem.W.dataLt b.py a.py := rfl
theorem leD_trans (a b c : D) (h1 : leD a b = true) (h2 : leD b c = true) : leD a c = true := (PySem.W.sortLe_total (listOrd itemOrd) false fun d : D => PySem.W.keyToks d.py).trans a b c h1 h2
theorem leD_total (a b : D) : (leD a b || leD b a) = true := (PySem.W.sortLe_total (listOrd itemOrd) false fun d : D => PySem.W.keyToks d.py).total a b |> fun h => by rw [Bool.or_eq_true]; exact h
theorem leD_anti {t : Ty} {a b : D} (ht : t.dep ≤ 48) (h : t.has a = true) (k : t.has b = true) (h1 : leD a b = true) (h2 : leD b a = true) : a = b := by
  rw [leD_eq, Bool.not_eq_true'] at h1 h2
  have f1 := fit_mono (has_fit t a h) ht
  have f2 := fit_mono (has_fit t b k) ht
  rw [lt_py 48 48 _ _ f2 f1 (has_alike t b a k h)] at h1
  rw [lt_py 48 48 _ _ f1 f2 (has_alike t a b h k)] at h2
  exact lt_anti t a b h k h2 h1
theorem kind_of {t : Ty} {ds : List D} (ht : t.dep ≤ 48) (h : ∀ d ∈ ds, t.has d = true) : sameKind ds = true := by
  refine List.all_eq_true.mpr fun d hd => ?_
  rw [Bool.and_eq_true]
  exact ⟨fit_mono (has_fit t d (h d hd)) ht, List.all_eq_true.mpr fun e he => has_alike t d e (h d hd) (h e he)⟩
theorem minDD_le (x : D) (xs : List D) : ∀ z ∈ x :: xs, leD (minDD x xs) z = true := by
  unfold minDD
  induction xs generalizing x with
  | nil => intro z hz; simp at hz; subst hz; have := leD_total z z; simpa using this
  | cons y ys ih =>
    intro z hz
    simp only [List.foldl_cons]
    have step : leD (if PySem.W.dataLt y.py x.py = true then y else x) x = true ∧ leD (if PySem.W.dataLt y.py x.py = true then y else x) y = true := by
      split
      · next h =>
        have q := leD_total y x
        rw [Bool.or_eq_true] at q
        refine ⟨?_, by have := leD_total y y; simpa using this⟩
        rcases q with q | q
        · exact q
        · rw [leD_eq, h] at q; cases q
      · next h =>
        refine ⟨by have := leD_total x x; simpa using this, ?_⟩
        rw [leD_eq]; simpa using h
    have h0 := ih (if PySem.W.dataLt y.py x.py = true then y else x)
    rcases List.mem_cons.mp hz with rfl | hz
    · exact leD_trans _ _ _ (h0 _ List.mem_cons_self) step.1
    · rcases List.mem_cons.mp hz with rfl | hz
      · exact leD_trans _ _ _ (h0 _ List.mem_cons_self) step.2
      · exact h0 z (List.mem_cons_of_mem _ hz)
/-- the first of the sorted is the least -/
theorem sorted_first {t : Ty} {x : D} {xs : List D} (ht : t.dep ≤ 48) (h : ∀ d ∈ x :: xs, t.has d = true) : ((x :: xs).mergeSort leD)[0]? = some (minDD x xs) := by
  have p := List.mergeSort_perm (x :: xs) leD
  have pw := List.pairwise_mergeSort (le := leD) (fun a b c => leD_trans a b c) leD_total (x :: xs)
  cases q : (x :: xs).mergeSort leD with
  | nil => rw [q] at p; exact absurd p.length_eq (by simp)
  | cons y ys =>
    rw [q] at p pw
    have hy : y ∈ x :: xs := p.mem_iff.mp List.mem_cons_self
    have hm := minDD_mem x xs
    have le : ∀ z ∈ x :: xs, leD y z = true := fun z hz => by
      rcases List.mem_cons.mp (p.mem_iff.mpr hz) with rfl | hz
      · have := leD_total z z; simpa using this
      · exact (List.pairwise_cons.mp pw).1 z hz
    show some y = _
    rw [leD_anti ht (h y hy) (h _ hm) (le _ hm) (minDD_le x xs y hy)]
end Fw
set_option Elab.async false
set_option linter.all false
set_option maxRecDepth 100000
set_option maxHeartbeats 4000000
namespace Fw
open PySem PySem.Spec PyProof.Rows L2

/-! ### name.extend(a new list, a name's list) -/
def extR (i : Nat) (r : R) : M R := fun en => match en[i]? with
  | some (.mu .lck _) => .bad
  | some (.mu k (.lst xs)) => (match r with
    | .fr (.lst zs) => if xs.length + zs.length ≤ sizeLine then .ok (.v .non) (en.set i (.mu k (.lst (xs ++ zs)))) else .bad
    | .al j => (match en[j]? with
      | some (.mu _ (.lst zs)) => if xs.length + zs.length ≤ sizeLine then .ok (.v .non) (en.set i (.mu k (.lst (xs ++ zs)))) else .bad
      | _ => .bad)
    | _ => .bad)
  | _ => .bad
def extM (i : Nat) (m : M R) : M R := fun en => match en[i]? with
  | some (.mu _ (.lst _)) => M.bnd m (extR i) en
  | _ => .bad
section
variable {X : Cx} {W : WX} {e : Expr} {apos cpos pos : Pos} {fe : M R} {x : Str}
theorem ext_end {i : Nat} {σ : L2.St} {H H1 : Hp} {en en1 : En} {a : Addr} {v : V} {r : R} {Q : VK} (q : σ[i]? = some (some (.ref a))) (l1 : Lim X.K H1) (s1 : Stp X.K X.mg σ H en σ H1 en1) (rr : RR X.K X.mg σ H en σ H1 en1 v r)
    (post : PostG X.K X.mg W σ H en (relR X σ H en) (extR i r en1) Q) : rExtend (.ref a) [v] H1 fun v H' => Lim X.K H' → Q v H' := by
  unfold extR at post
  split at post
  · exact post.elim
  · next k xs hk e =>
    obtain ⟨a', q', m⟩ := s1.er.mu i k (.lst xs) e
    rw [q] at q'; cases q'
    obtain ⟨us, hu, tu⟩ := m
    have fin : ∀ {b : Addr} {zs : List D} {ws : List V}, H1 b = some (.lst ws) → DrL X.K X.mg H1 ws zs → v = .ref b → PostG X.K X.mg W σ H en (relR X σ H en) (if xs.length + zs.length ≤ sizeLine then .ok (.v .non) (en1.set i (.mu k (.lst (xs ++ zs)))) else .bad) Q → rExtend (.ref a) [v] H1 fun v H' => Lim X.K H' → Q v H' := fun {b zs ws} hb tb ev post => by
      split at post
      · next c =>
        have mo : Mo H1 (upd H1 a (.lst (us ++ ws))) := mo_upd hu trivial
        exact ⟨a, b, us, ws, rfl, by rw [ev], hu, hb, by rw [tu.length, tb.length]; exact c, fun l' => post .non _ l' (s1.trans (Stp.put s1.er e hk q ⟨_, upd_same, (tu.append tb).mo mo⟩)) .non⟩
      · exact post.elim
    split at post
    · next zs =>
      obtain ⟨b, ev, ⟨ws, hb, tb⟩, _, _⟩ := rr
      exact fin hb tb ev post
    · next j =>
      split at post
      · next k2 zs e2 =>
        obtain ⟨b, q2, ⟨ws, hb, tb⟩⟩ := s1.er.mu j k2 (.lst zs) e2
        have rr : σ[j]? = some (some v) := rr
        rw [rr] at q2; cases q2
        exact fin hb tb rfl post
      · exact post.elim
    · exact post.elim
  · exact post.elim
theorem de_ext (i : Nat) (he : DE X W e fe) (hN : X.N[i]? = some x := by rfl) (hv : Vis X.env.scope x := by first | exact Or.inl rfl | exact Or.inr (Or.inl rfl) | exact Or.inr (Or.inr rfl)) (hd : (x == ("__debug__" : Str)) = false := by decide)
    (hcd : (x == ("__classdict__" : Str)) = false := by decide) (hbase : attributeBase (.Name x pos) "extend" X.env (eval (.Name x pos) X.env) = eval (.Name x pos) X.env := by rfl)
    (hfew : ((backTo cpos (starEach [e] X.env)).all (fun x => !x.1) && (backToKw cpos (keywordEach [] X.env)).all (fun x => x.1.isSome)
      && decide ([e].length + ([] : List Keyword).length + (if ([] : List Keyword).isEmpty then 0 else 1) < 30)) = true := by rfl)
    (hline : (apos.endLine == cpos.line) = true := by rfl) (hs : starEach [e] X.env = (false, eval e X.env) :: starEach [] X.env := by rfl) (hplain : (backTo cpos (starEach [] X.env)).any (·.1) = false := by rfl) :
    DE X W (.Call (.Attribute (.Name x pos) "extend" apos) [e] [] cpos) (extM i fe) := by
  obtain ⟨te, pe, ke⟩ := he.ex
  refine DE.mk' (pe_bm PySem.F.plainAttrs_list PySem.F.slot_list_extend PySem.F.type_list_extend mt_extend (pe_var hN hv hd hcd) (pa_cons pe pa_nil hs) hbase hfew hline hs hplain) fun σ H en Q l E post => ?_
  unfold extM at post
  split at post
  · next k xs e0 =>
    obtain ⟨a, q, m⟩ := E.mu i k (.lst xs) e0
    refine ⟨.ref a, q, ty_of m rfl, ke σ H en _ l E (PostG.bindAt (Stp.refl E) post fun r en1 v H1 _ l1 s1 rr post1 => ?_)⟩
    exact ext_end q l1 s1 rr post1
  · exact post.elim
/-- list(range(n)) -/
theorem de_listRg1 {b : Expr} {fb : M R} {p p0 p2 : Pos} (hc : X.calm = true) (hg : Gl X "list") (hm : X.mg "list" = none) (hgr : Gl X "range") (hmr : X.mg "range" = none) (hb : DE X W b fb) (na : starEach [.Call (.Name "range" p) [b] [] p2] X.env = (false, eval (.Call (.Name "range" p) [b] [] p2) X.env) :: starEach [] X.env := by rfl)
    (nr2 : starEach [b] X.env = (false, eval b X.env) :: starEach [] X.env := by rfl) : DE X W (.Call (.Name "list" p0) [.Call (.Name "range" p) [b] [] p2] [] pos) (rgM1 (fun ds => .fr (.lst ds)) fb) := by
  obtain ⟨tb, pb, kb⟩ := hb.ex
  refine DE.mk' (pe_listRg hc hg hm (prg_1 hgr hmr pb nr2) na) fun σ H en Q l E post => ?_
  refine kb σ H en _ l E (PostG.bindAt (Stp.refl E) post fun r2 en2 v2 H2 _ l2 s2 rr2 post2 => ?_)
  split at post2
  · next j h2 =>
    split at post2
    · next k =>
      refine ⟨j, Rb.int (Rb.peek s2.er rr2 h2), RgOk.of_le (by omega) k.2.1 (by omega) k.1, fun q hq l3 => ?_⟩
      have z := rg_dr (X := X) (H := upd H2 q (.lst (rgV 0 j))) 0 j
      rw [Int.sub_zero] at z
      exact post2 (.ref q) _ l3 (s2.trans (Stp.same s2.er (same_new hq))) (new_fr s2 hq ⟨_, upd_same, z⟩)
    · exact post2.elim
  · exact post2.elim
/-- tuple(range(..)) -/
theorem de_tupRg2 {a b : Expr} {fa fb : M R} {p p0 p2 : Pos} (hc : X.calm = true) (hg : Gl X "tuple") (hm : X.mg "tuple" = none) (hgr : Gl X "range") (hmr : X.mg "range" = none) (ha : DE X W a fa) (hb : DE X W b fb) (na : starEach [.Call (.Name "range" p) [a, b] [] p2] X.env = (false, eval (.Call (.Name "range" p) [a, b] [] p2) X.env) :: starEach [] X.env := by rfl)
    (nr : starEach [a, b] X.env = (false, eval a X.env) :: starEach [b] X.env := by rfl) (nr2 : starEach [b] X.env = (false, eval b X.env) :: starEach [] X.env := by rfl) (hpl : (backTo p2 (starEach [b] X.env)).any (fun x => x.1) = false := by rfl) :
    DE X W (.Call (.Name "tuple" p0) [.Call (.Name "range" p) [a, b] [] p2] [] pos) (rgM (fun ds => .v (.tup ds)) fa fb) := by
  obtain ⟨ta, pa, ka⟩ := ha.ex
  obtain ⟨tb, pb, kb⟩ := hb.ex
  refine DE.mk' (pe_tupRg hc hg hm (prg_2 hgr hmr pa pb nr nr2 hpl) na) fun σ H en Q l E post => ?_
  refine ka σ H en _ l E (PostG.bindAt (Stp.refl E) post fun r1 en1 v1 H1 _ l1 s1 rr1 post1 => ?_)
  refine kb σ H1 en1 _ l1 s1.er (PostG.bindAt s1 post1 fun r2 en2 v2 H2 _ l2 s2 rr2 post2 => ?_)
  split at post2
  · next i j h1 h2 =>
    split at post2
    · next k =>
      have st := s1.trans s2
      refine ⟨i, j, Rb.int (Rb.peek s2.er (RR.later s1.er rr1 s2) h1), Rb.int (Rb.peek s2.er rr2 h2), RgOk.of_le k.1 k.2.2.2.1 k.2.1 k.2.2.1, fun q hq l3 => ?_⟩
      exact post2 (.ref q) _ l3 (st.trans (Stp.same st.er (same_new hq))) (dr_newT hq (rg_dr i j))
    · exact post2.elim
  · exact post2.elim
theorem de_tupRg1 {b : Expr} {fb : M R} {p p0 p2 : Pos} (hc : X.calm = true) (hg : Gl X "tuple") (hm : X.mg "tuple" = none) (hgr : Gl X "range") (hmr : X.mg "range" = none) (hb : DE X W b fb) (na : starEach [.Call (.Name "range" p) [b] [] p2] X.env = (false, eval (.Call (.Name "range" p) [b] [] p2) X.env) :: starEach [] X.env := by rfl)
    (nr2 : starEach [b] X.env = (false, eval b X.env) :: starEach [] X.env := by rfl) : DE X W (.Call (.Name "tuple" p0) [.Call (.Name "range" p) [b] [] p2] [] pos) (rgM1 (fun ds => .v (.tup ds)) fb) := by
  obtain ⟨tb, pb, kb⟩ := hb.ex
  refine DE.mk' (pe_tupRg hc hg hm (prg_1 hgr hmr pb nr2) na) fun σ H en Q l E post => ?_
  refine kb σ H en _ l E (PostG.bindAt (Stp.refl E) post fun r2 en2 v2 H2 _ l2 s2 rr2 post2 => ?_)
  split at post2
  · next j h2 =>
    split at post2
    · next k =>
      refine ⟨j, Rb.int (Rb.peek s2.er rr2 h2), RgOk.of_le (by omega) k.2.1 (by omega) k.1, fun q hq l3 => ?_⟩
      have z := rg_dr (X := X) (H := H2) 0 j
      rw [Int.sub_zero] at z
      exact post2 (.ref q) _ l3 (s2.trans (Stp.same s2.er (same_new hq))) (dr_newT hq z)
    · exact post2.elim
  · exact post2.elim
/-- xs[::-1] of a list -/
def revM (a : M R) : M R := M.bnd a fun r en => match peek en r with
  | some (.lst xs) => .ok (.fr (.lst xs.reverse)) en
  | _ => .bad
theorem de_rev {a : Expr} {fa : M R} {k : Nat} {p1 p2 p3 : Pos} (ha : DE X W a fa) : DE X W (.Subscript a (.Slice none none (some (.UnaryOp .USub (.Constant (.int 1) k p1) p2)) p3) pos) (revM fa) := by
  obtain ⟨ta, pa, ka⟩ := ha.ex
  refine DE.mk' (pe_revL pa) fun σ H en Q l E post => ?_
  refine ka σ H en _ l E (PostG.bindAt (Stp.refl E) post fun r1 en1 v1 H1 _ l1 s1 rr1 post1 => ?_)
  split at post1
  · next xs pk =>
    obtain ⟨a, vs, rfl, q, t⟩ := Rb.lst (Rb.peek s1.er rr1 pk)
    exact ⟨a, vs, rfl, q, fun p hp l2 => post1 (.ref p) _ l2 (s1.trans (Stp.same s1.er (same_new hp))) (new_fr s1 hp ⟨_, upd_same, t.reverse.mo (Mo.same (same_new hp))⟩)⟩
  · exact post1.elim
end
section
variable {X : Cx} {W : WX} {a b c : Expr} {fa fb fc : M R} {pos px py pz pt pt2 : Pos} {x y z : Str}
/-- two names at once, by the tuple itself -/
theorem ds_parT (i j : Nat) {kt k2 : Nat} (hc : X.calm = true) (ha : DE X W a fa) (hb : DE X W b fb) (hN : X.N.Nodup) (hi : X.N[i]? = some x := by rfl) (hj : X.N[j]? = some y := by rfl) (hij : i ≠ j := by decide)
    (hx : Loc X.env.scope x := by first | exact Or.inl rfl | exact Or.inr rfl) (hy : Loc X.env.scope y := by first | exact Or.inl rfl | exact Or.inr rfl)
    (hfx : X.fn x = true ∨ X.env.scope.names.lookup x = some .local := by first | exact .inl rfl | exact .inr rfl) (hfy : X.fn y = true ∨ X.env.scope.names.lookup y = some .local := by first | exact .inl rfl | exact .inr rfl)
    (hs : swapsWithSole [.Tuple [.Name x px, .Name y py] kt pt] (.Tuple [a, b] k2 pt2) pos.line X.env = pure false := by rfl) (hw : swappedStores [.Tuple [.Name x px, .Name y py] kt pt] (.Tuple [a, b] k2 pt2) X.env = pure none := by rfl)
    (h0 : (assignEach [.Tuple [.Name x px, .Name y py] kt pt] X.env).map (·.2) = [assign (.Tuple [.Name x px, .Name y py] kt pt) X.env] := by rfl)
    (hn : (assignEach [.Name x px, .Name y py] X.env).length = 2 := by rfl) (hst : (assignEach [.Name x px, .Name y py] X.env).findIdx? (·.1) = none := by rfl)
    (hs2 : (assignEach (.Name x px :: [.Name y py]) X.env).map (·.2) = assign (.Name x px) X.env :: (assignEach [.Name y py] X.env).map (·.2) := by rfl) (hs3 : (assignEach (.Name y py :: []) X.env).map (·.2) = assign (.Name y py) X.env :: (assignEach [] X.env).map (·.2) := by rfl)
    (h1 : starEach [a, b] X.env = (false, eval a X.env) :: starEach [b] X.env := by rfl) (h2 : starEach [b] X.env = (false, eval b X.env) :: starEach [] X.env := by rfl) :
    DS X W (.Assign [.Tuple [.Name x px, .Name y py] kt pt] (.Tuple [a, b] k2 pt2) pos) (par2 i j fa fb) := by
  obtain ⟨ta, pa, ka⟩ := ha.ex
  obtain ⟨tb, pb, kb⟩ := hb.ex
  refine DS.mk' (ps_asg (pe_tup (pa_cons pa (pa_cons pb pa_nil h2) h1)) (pg_tup hc (pgs_cons (pg_name hN hi hx hfx) (pgs_cons (pg_name hN hj hy hfy) pgs_nil hs3) hs2) hn hst) hs hw h0) fun σ H en D l E post => ?_
  refine ka σ H en _ l E (PostS.expr E post fun r en1 v H1 _ l1 s1 rr1 post1 => ?_)
  refine kb σ H1 en1 _ l1 s1.er (PostS.exprAt s1 post1 fun s en2 w H2 _ l2 s2 rr2 post2 => ?_)
  refine ⟨by show 2 ≤ sizeLine; rw [sizeLine_eq]; omega, fun T hT => ?_⟩
  have sm : Same H2 (upd H2 T (.tup [v, w])) := same_new hT
  refine ⟨T, [v, w], rfl, .inl (.inl upd_same), rfl, v, [w], rfl, w, [], rfl, rfl, fun l3 => ?_⟩
  have s2' := s2.trans (Stp.same s2.er sm)
  split at post2
  · next r' s' e1 e2 =>
    obtain ⟨q1, p1⟩ := RR.plain s2'.er (RR.later s1.er rr1 s2') e1
    obtain ⟨q2, p2⟩ := RR.plain s2'.er (RR.later s2.er rr2 (Stp.same s2.er sm)) e2
    have hs' : (∃ d, s' = .v d) ∨ ∃ d, s' = .fr d := p2.imp id fun ⟨d, _, h⟩ => ⟨d, h⟩
    have hr' : (∃ d, r' = .v d) ∨ ∃ d, r' = .fr d := p1.imp id fun ⟨d, _, h⟩ => ⟨d, h⟩
    have s12 := s1.trans s2'
    rcases setR_ok (i := i) (r := r') (en := en2) with ⟨en3, h3⟩ | h3
    · rw [bnd_ok h3] at post2
      have q2 := RR.setOther (RR.back s1 q2) hs' hr' h3 fun a d d' z1 z2 z3 => by
        subst z1; subst z2
        rcases p1 with ⟨_, h⟩ | ⟨d1, h, h'⟩
        · cases h
        · rcases p2 with ⟨_, g⟩ | ⟨d2, g, g'⟩
          · cases g
          · subst h; subst g
            exact RR.apart rr1 rr2 z3
      have st := s12.setR q1 h3
      rcases setR_ok (i := j) (r := s') (en := en3) with ⟨en4, h4⟩ | h4
      · rw [bnd_ok h4] at post2
        exact post2 _ _ l3 (st.setR q2 h4)
      · rw [bnd_bad h4] at post2; exact post2.elim
    · rw [bnd_bad h3] at post2; exact post2.elim
  · exact post2.elim
end
/-! ### sorted rows of whole numbers -/
def intL (l : List Int) : List D := l.map D.int
theorem int_back {l : List Int} : ∀ {r : List D}, (∀ x ∈ r, x ∈ intL l) → ∃ ws, r = intL ws
  | [], _ => ⟨[], rfl⟩
  | x :: r, h => by
    obtain ⟨ws, e⟩ := int_back (r := r) fun y hy => h y (List.mem_cons_of_mem _ hy)
    obtain ⟨w, _, rfl⟩ := List.mem_map.mp (h x List.mem_cons_self)
    exact ⟨w :: ws, by rw [e]; rfl⟩
def unInt : D → Int
  | .int i => i
  | _ => 0
theorem unInt_int (l : List Int) : (intL l).map unInt = l := by
  unfold intL
  rw [List.map_map]
  exact List.map_id _
theorem int_perm {a b : List Int} (h : (intL a).Perm (intL b)) : a.Perm b := by
  have := h.map unInt
  rwa [unInt_int, unInt_int] at this
theorem leD_int (a b : Int) : leD (.int a) (.int b) = decide (a ≤ b) := by
  rw [leD_eq, lt_py 0 0 _ _ rfl rfl (has_alike .int _ _ rfl rfl)]
  simp only [D.lt]
  by_cases h : b < a
  · rw [decide_eq_true h, decide_eq_false (by omega)]; rfl
  · rw [decide_eq_false h, decide_eq_true (by omega)]; rfl
theorem int_has (l : List Int) : ∀ d ∈ intL l, Ty.int.has d = true := fun d hd => by
  obtain ⟨i, _, rfl⟩ := List.mem_map.mp hd
  rfl
/-- sorted(list of whole numbers) -/
theorem sort_ints (l : List Int) : ∃ l', sortG [.lst (intL l)] = some (.fr (.lst (intL l'))) ∧ l'.Perm l ∧ l'.Pairwise (· ≤ ·) := by
  have p := List.mergeSort_perm (intL l) leD
  have pw := List.pairwise_mergeSort (le := leD) (fun a b c => leD_trans a b c) leD_total (intL l)
  obtain ⟨l', e⟩ := int_back (r := (intL l).mergeSort leD) fun x hx => p.mem_iff.mp hx
  rw [e] at p pw
  refine ⟨l', ?_, int_perm p, ?_⟩
  · unfold sortG
    have k := kind_of (t := .int) (by decide) (int_has l)
    have a : (intL l).all noTup = true := List.all_eq_true.mpr fun d hd => by
      obtain ⟨i, _, rfl⟩ := List.mem_map.mp hd
      rfl
    simp only [k, a, Bool.or_true, Bool.and_self, if_true, e]
  · unfold intL at pw
    rw [List.pairwise_map] at pw
    exact pw.imp fun {a b} h => by rw [leD_int] at h; exact of_decide_eq_true h
theorem eqL_ints (a b : List Int) : D.eqL (intL a) (intL b) = (a == b) := by
  have h := eq_row .int (intL a) (intL b) (int_has a) (int_has b)
  have i : intL a = intL b ↔ a = b := ⟨fun e => by have := congrArg (List.map unInt) e; rwa [unInt_int, unInt_int] at this, fun e => by rw [e]⟩
  by_cases e : a = b
  · subst e; simp [h.mpr rfl]
  · rw [Bool.eq_false_iff.mpr fun z => e (i.mp (h.mp z)), beq_eq_false_iff_ne.mpr e]
theorem ints_fitN (l : List Int) (n : Nat) : (intL l).all (D.fit n) = true := List.all_eq_true.mpr fun d hd => by
  obtain ⟨i, _, rfl⟩ := List.mem_map.mp hd
  cases n <;> rfl
theorem eqG_lints (a b : List Int) : eqG (.lst (intL a)) (.lst (intL b)) = some (.v (.bl (a == b))) := by
  unfold eqG
  have f : ∀ l : List Int, (D.lst (intL l)).fit deep = true := fun l => ints_fitN l _
  rw [f, f, Bool.and_self, if_pos rfl]
  show some (R.v (.bl (D.eqL (intL a) (intL b)))) = _
  rw [eqL_ints]
theorem eqG_tints (a b : List Int) : eqG (.tup (intL a)) (.tup (intL b)) = some (.v (.bl (a == b))) := by
  unfold eqG
  have f : ∀ l : List Int, (D.tup (intL l)).fit deep = true := fun l => ints_fitN l _
  rw [f, f, Bool.and_self, if_pos rfl]
  show some (R.v (.bl (D.eqL (intL a) (intL b)))) = _
  rw [eqL_ints]
theorem inG_tints (x : Int) (u : List Int) : inG (.int x) (.tup (intL u)) = some (.v (.bl (decide (x ∈ u)))) := by
  have g : (D.int x).fit deep = true := rfl
  show (if (D.int x).fit deep && (intL u).all (D.fit deep) then _ else _) = _
  rw [ints_fitN, g, Bool.and_self, if_pos rfl]
  unfold intL
  rw [List.any_map]
  have : (u.any ((fun y => D.eq y (.int x)) ∘ D.int)) = decide (x ∈ u) := by
    rw [Bool.eq_iff_iff]
    simp [D.eq]
  rw [this]
theorem bools_all (bs : List Bool) : allG [.lst (bs.map D.bl)] = some (.v (.bl (bs.all id))) := by
  show (boolsOf _).map _ = _
  rw [boolsOf_map]
  rfl
theorem bools_any (bs : List Bool) : anyG [.lst (bs.map D.bl)] = some (.v (.bl (bs.any id))) := by
  show (boolsOf _).map _ = _
  rw [boolsOf_map]
  rfl
/-! ### comprehensions over told rows -/
theorem lcL_mapX {β : Type} {vs : List Nat} {g : TgF} {fe : M D} {en : En} (enc f : β → D) {xs : List β} (h : ∀ x ∈ xs, ∃ en1 en3, g (enc x) en = some en1 ∧ fe en1 = .ok (f x) en3 ∧ wipeE en3 vs = en) : lcL vs g yesM fe (xs.map enc) en = .ok (xs.map f) en := by
  induction xs with
  | nil => rfl
  | cons d ds ih =>
    obtain ⟨en1, en3, h1, h2, h3⟩ := h d List.mem_cons_self
    have ih := ih fun x hx => h x (List.mem_cons_of_mem _ hx)
    have hy : yesM en1 = .ok true en1 := rfl
    rw [List.map_cons]
    unfold lcL M.bnd tgM
    simp only [h1, hy, h2, h3, if_true]
    rw [ih]
    rfl
theorem lcL_filtX {β : Type} {vs : List Nat} {g : TgF} {ft : M Bool} {fe : M D} {en : En} (enc f : β → D) (p : β → Bool) {xs : List β} (h : ∀ x ∈ xs, ∃ en1 en2, g (enc x) en = some en1 ∧ ft en1 = .ok (p x) en2 ∧ (p x = true → ∃ en3, fe en2 = .ok (f x) en3 ∧ wipeE en3 vs = en) ∧ (p x = false → wipeE en2 vs = en)) :
    lcL vs g ft fe (xs.map enc) en = .ok ((xs.filter p).map f) en := by
  induction xs with
  | nil => rfl
  | cons d ds ih =>
    obtain ⟨en1, en2, h1, h2, h3⟩ := h d List.mem_cons_self
    have ih := ih fun x hx => h x (List.mem_cons_of_mem _ hx)
    rw [List.map_cons]
    unfold lcL M.bnd tgM
    simp only [h1, h2]
    cases q : p d with
    | true =>
      obtain ⟨en3, h4, h5⟩ := h3.1 q
      simp only [h4, h5, if_true]
      rw [ih, List.filter_cons_of_pos q]
      rfl
    | false =>
      simp only [Bool.false_eq_true, if_false]
      rw [h3.2 q, ih, List.filter_cons_of_neg (by simp [q])]
end Fw
set_option Elab.async false
set_option linter.all false
set_option maxRecDepth 100000
set_option maxHeartbeats 0
namespace K59
open PySem PySem.Spec PyProof.Rows L2 Fw

abbrev prg : Program := PySem.Challenge.pw_fewforces_k59_whole_weighings_that_tell
def topS (i : Nat) : Stmt := prg.main.body.getD i (.Pass ⟨0, 0, 0, 0⟩)
abbrev fuelR : Nat := 16
def fuelW : Nat := 10 ^ 40
abbrev s__law_hand : Stmt := topS 20
theorem sc__law_hand : FnScope ["script", "cells", "cell"] ["script"] (defScope s__law_hand) := ⟨rfl, rfl, rfl, by decide +kernel, rfl, by decide +kernel, by decide +kernel⟩
def b__law_hand : S :=
  (seqS (setS 1 (lcM (seqV (toV (sliceM (varM 0) noPartM (partM (litM (.int 63)))))) [2] (setD 2) yesM (toV (callM absG (consA (callM intG (consA (varM 2) nilA)) nilA)))))
  (retS (lstM (consV (toV (varM 1)) (consV (toV (litM (.int 0))) (consV (toV (litM (.int 0))) (consV (toV (bin2 addG (litM (.int 239)) (callM lenG (consA (varM 1) nilA)))) (consV (toV (litM (.int 0))) nilV))))))))
def F__law_hand : Fn := fnD 2 b__law_hand
abbrev s_is_integer : Stmt := topS 1
theorem sc_is_integer : FnScope ["thing"] ["thing"] (defScope s_is_integer) := ⟨rfl, rfl, rfl, by decide +kernel, rfl, by decide +kernel, by decide +kernel⟩
def b_is_integer : S :=
  (retS (andV (isaM "int" (varM 0)) (notV (isaM "bool" (varM 0)))))
def F_is_integer : Fn := fnD 0 b_is_integer
abbrev s_is_within : Stmt := topS 2
theorem sc_is_within : FnScope ["thing", "low", "high"] ["thing", "low", "high"] (defScope s_is_within) := ⟨rfl, rfl, rfl, by decide +kernel, rfl, by decide +kernel, by decide +kernel⟩
def b_is_within : S :=
  (retS (andV (callF F_is_integer (consA (varM 0) nilA)) (chainM (cmpI fun i j => decide (i ≤ j)) (cmpI fun i j => decide (i ≤ j)) (varM 1) (varM 0) (varM 2))))
def F_is_within : Fn := fnD 0 b_is_within
abbrev s_check_coins : Stmt := topS 13
theorem sc_check_coins : FnScope ["n"] ["n"] (defScope s_check_coins) := ⟨rfl, rfl, rfl, by decide +kernel, rfl, by decide +kernel, by decide +kernel⟩
def b_check_coins : S :=
  (ifS (notM (toB (callF F_is_within (consA (varM 0) (consA (litM (.int 1)) (consA (litM (.int 12)) nilA)))))) badS nopS)
def F_check_coins : Fn := fnD 0 b_check_coins
abbrev s_check_kind : Stmt := topS 14
theorem sc_check_kind : FnScope ["kind"] ["kind"] (defScope s_check_kind) := ⟨rfl, rfl, rfl, by decide +kernel, rfl, by decide +kernel, by decide +kernel⟩
def b_check_kind : S :=
  (ifS (orM (notM (toB (isaM "str" (varM 0)))) (toB (bin2 ninG (varM 0) (tupM (consV (toV (litM (.str "heavy"))) (consV (toV (litM (.str "either"))) (consV (toV (litM (.str "or none"))) nilV))))))) badS nopS)
def F_check_kind : Fn := fnD 0 b_check_kind
abbrev s_cases_of : Stmt := topS 15
theorem sc_cases_of : FnScope ["n", "kind", "found", "coin"] ["n", "kind"] (defScope s_cases_of) := ⟨rfl, rfl, rfl, by decide +kernel, rfl, by decide +kernel, by decide +kernel⟩
def b_cases_of : S :=
  (seqS (ifS (toB (bin2 eqG (varM 1) (litM (.str "heavy")))) (retS (lcM (rng1 (varM 0)) [3] (setD 3) yesM (toV (tupM (consV (toV (varM 3)) (consV (toV (litM (.int 1))) nilV)))))) nopS)
  (seqS (setS 2 (ifM (toB (bin2 eqG (varM 1) (litM (.str "or none")))) (lstM (consV (toV (litM .non)) nilV)) (lstM nilV)))
  (seqS (forS (rng1 (varM 0)) (setD 3) (dropS (extM 2 (lstM (consV (toV (tupM (consV (toV (varM 3)) (consV (toV (un1 negG (litM (.int 1)))) nilV)))) (consV (toV (tupM (consV (toV (varM 3)) (consV (toV (litM (.int 1))) nilV)))) nilV))))))
  (retS (varM 2)))))
def F_cases_of : Fn := fnD 2 b_cases_of
abbrev s_is_tuple : Stmt := topS 3
theorem sc_is_tuple : FnScope ["thing", "least", "most"] ["thing", "least", "most"] (defScope s_is_tuple) := ⟨rfl, rfl, rfl, by decide +kernel, rfl, by decide +kernel, by decide +kernel⟩
def b_is_tuple : S :=
  (retS (andV (isaM "tuple" (varM 0)) (chainM (cmpI fun i j => decide (i ≤ j)) (cmpI fun i j => decide (i ≤ j)) (varM 1) (callM lenG (consA (varM 0) nilA)) (varM 2))))
def F_is_tuple : Fn := fnD 0 b_is_tuple
abbrev s_told_by : Stmt := topS 17
theorem sc_told_by : FnScope ["weighing", "case", "coin", "sign"] ["weighing", "case"] (defScope s_told_by) := ⟨rfl, rfl, rfl, by decide +kernel, rfl, by decide +kernel, by decide +kernel⟩
def b_told_by : S :=
  (seqS (ifS (toB (bin2 isG (varM 1) (litM .non))) (retS (litM (.int 0))) nopS)
  (seqS (asgS (tupG 2 (consG (setD 2) (consG (setD 3) nilG))) (toV (varM 1)))
  (retS (ifM (toB (bin2 inG (varM 2) (bin2 ixG (varM 0) (litM (.int 0))))) (varM 3) (ifM (toB (bin2 inG (varM 2) (bin2 ixG (varM 0) (litM (.int 1))))) (bin2 subI (litM (.int 0)) (varM 3)) (litM (.int 0)))))))
def F_told_by : Fn := fnD 2 b_told_by
abbrev s_is_lot : Stmt := topS 4
theorem sc_is_lot : FnScope ["thing", "many", "one", "other"] ["thing", "many"] (defScope s_is_lot) := ⟨rfl, rfl, rfl, by decide +kernel, rfl, by decide +kernel, by decide +kernel⟩
def b_is_lot : S :=
  (seqS (ifS (orM (notM (toB (isaM "tuple" (varM 0)))) (notM (toB (callM allG (consA (lcM (seqN 0) [2] (setD 2) yesM (toV (callF F_is_within (consA (varM 2) (consA (litM (.int 0)) (consA (toP (bin2 subI (varM 1) (litM (.int 1)))) nilA)))))) nilA))))) (retS (litM (.bl false))) nopS)
  (retS (callM allG (consA (lcM (zipI (consV (toV (varM 0)) (consV (toV (sliceM (varM 0) (partM (litM (.int 1))) noPartM)) nilV))) [2, 3] (tupG 2 (consG (setD 2) (consG (setD 3) nilG))) yesM (toV (bin2 (cmpI fun i j => decide (i < j)) (varM 2) (varM 3)))) nilA))))
def F_is_lot : Fn := fnD 2 b_is_lot
abbrev s_is_weighing : Stmt := topS 16
theorem sc_is_weighing : FnScope ["n", "thing", "lot", "coin"] ["n", "thing"] (defScope s_is_weighing) := ⟨rfl, rfl, rfl, by decide +kernel, rfl, by decide +kernel, by decide +kernel⟩
def b_is_weighing : S :=
  (seqS (ifS (orM (notM (toB (callF F_is_tuple (consA (varM 1) (consA (litM (.int 2)) (consA (litM (.int 2)) nilA)))))) (notM (toB (callM allG (consA (lcM (seqN 1) [2] (setD 2) yesM (toV (andV (callF F_is_lot (consA (varM 2) (consA (varM 0) nilA))) (bin2 (cmpI fun i j => decide (i > j)) (callM lenG (consA (varM 2) nilA)) (litM (.int 0)))))) nilA))))) (retS (litM (.bl false))) nopS)
  (retS (andV (bin2 eqG (callM lenG (consA (bin2 ixG (varM 1) (litM (.int 0))) nilA)) (callM lenG (consA (bin2 ixG (varM 1) (litM (.int 1))) nilA))) (notV (callM anyG (consA (lcM (seqV (toV (bin2 ixG (varM 1) (litM (.int 0))))) [3] (setD 3) yesM (toV (bin2 inG (varM 3) (bin2 ixG (varM 1) (litM (.int 1)))))) nilA))))))
def F_is_weighing : Fn := fnD 2 b_is_weighing
abbrev s_told_apart : Stmt := topS 18
theorem sc_told_apart : FnScope ["n", "kind", "weighings", "cases", "told", "at", "case", "other", "weighing", "one"] ["n", "kind", "weighings"] (defScope s_told_apart) := ⟨rfl, rfl, rfl, by decide +kernel, rfl, by decide +kernel, by decide +kernel⟩
def b_told_apart : S :=
  (seqS (dropS (callF F_check_coins (consA (varM 0) nilA)))
  (seqS (dropS (callF F_check_kind (consA (varM 1) nilA)))
  (seqS (ifS (orM (notM (toB (callF F_is_tuple (consA (varM 2) (consA (litM (.int 0)) (consA (litM (.int 4)) nilA)))))) (notM (toB (callM allG (consA (lcM (seqN 2) [9] (setD 9) yesM (toV (callF F_is_weighing (consA (varM 0) (consA (varM 9) nilA))))) nilA))))) badS nopS)
  (seqS (setS 3 (callF F_cases_of (consA (varM 0) (consA (varM 1) nilA))))
  (seqS (setS 4 (lcM (seqN 3) [6] (setD 6) yesM (toV (lcM (seqN 2) [8] (setD 8) yesM (toV (callF F_told_by (consA (varM 8) (consA (varM 6) nilA))))))))
  (seqS (forS (enumN 3) (tupG 2 (consG (setD 5) (consG (setD 6) nilG))) (forS (rng2 (bin2 addG (varM 5) (litM (.int 1))) (callM lenG (consA (varM 3) nilA))) (setD 7) (ifS (toB (bin2 eqG (bin2 ixG (varM 4) (varM 5)) (bin2 ixG (varM 4) (varM 7)))) (retS (tupM (consV (toV (litM (.str "two"))) (consV (toV (varM 6)) (consV (toV (bin2 ixG (varM 3) (varM 7))) nilV))))) nopS)))
  (retS (tupM (consV (toV (litM (.str "told"))) nilV)))))))))
def F_told_apart : Fn := fnD 7 b_told_apart
abbrev s__law_draw : Stmt := topS 21
theorem sc__law_draw : FnScope ["hand", "limit", "number", "cell", "digit"] ["hand", "limit"] (defScope s__law_draw) := ⟨rfl, rfl, rfl, by decide +kernel, rfl, by decide +kernel, by decide +kernel⟩
def b__law_draw : S :=
  (seqS (ifS (andM (toB (bin2 eqG (bin2 ixG (varM 0) (litM (.int 2))) (litM (.int 0)))) (toB (bin2 (cmpI fun i j => decide (i < j)) (bin2 ixG (varM 0) (litM (.int 1))) (callM lenG (consA (bin2 ixG (varM 0) (litM (.int 0))) nilA))))) (seqS (setS 3 (bin2 ixG (bin2 ixG (varM 0) (litM (.int 0))) (bin2 ixG (varM 0) (litM (.int 1)))))
  (seqS (setIx 0 (toV (bin2 addG (bin2 ixG (varM 0) (litM (.int 1))) (litM (.int 1)))) (litM (.int 1)))
  (seqS (setIx 0 (toV (bin2 modI (callM intG (consA (bin2 addG (bin2 addG (bin2 mulG (bin2 ixG (varM 0) (litM (.int 3))) (litM (.int 69621))) (varM 3)) (litM (.int 331))) nilA)) (litM (.int 2147483629)))) (litM (.int 3)))
  (ifS (toB (bin2 (cmpI fun i j => decide (i ≥ j)) (varM 3) (bin2 powI (litM (.int 10)) (litM (.int 18))))) (setIx 0 (toV (varM 3)) (litM (.int 2))) nopS)))) nopS)
  (seqS (ifS (toB (bin2 (cmpI fun i j => decide (i > j)) (bin2 ixG (varM 0) (litM (.int 2))) (litM (.int 0)))) (seqS (setS 4 (bin2 modI (callM intG (consA (bin2 ixG (varM 0) (litM (.int 2))) nilA)) (varM 1)))
  (seqS (setIx 0 (toV (bin2 fdivI (bin2 ixG (varM 0) (litM (.int 2))) (varM 1))) (litM (.int 2)))
  (retS (varM 4)))) nopS)
  (seqS (setIx 0 (toV (bin2 addG (bin2 ixG (varM 0) (litM (.int 4))) (litM (.int 1)))) (litM (.int 4)))
  (seqS (setS 2 (bin2 modI (callM intG (consA (bin2 mulG (callM intG (consA (bin2 addG (bin2 ixG (varM 0) (litM (.int 3))) (bin2 mulG (litM (.int 7919)) (bin2 ixG (varM 0) (litM (.int 4))))) nilA)) (litM (.int 48271))) nilA)) (litM (.int 2147483647))))
  (seqS (setS 2 (bin2 modI (callM intG (consA (bin2 mulG (varM 2) (bin2 addG (bin2 fdivI (varM 2) (litM (.int 1009))) (litM (.int 69621)))) nilA)) (litM (.int 2147483647))))
  (seqS (setS 2 (bin2 modI (callM intG (consA (bin2 mulG (varM 2) (bin2 addG (bin2 fdivI (varM 2) (litM (.int 2003))) (litM (.int 40692)))) nilA)) (litM (.int 2147483399))))
  (retS (bin2 modI (callM intG (consA (bin2 fdivI (varM 2) (litM (.int 16))) nilA)) (varM 1)))))))))
def F__law_draw : Fn := fnD 3 b__law_draw
abbrev s__law_mixed : Stmt := topS 24
theorem sc__law_mixed : FnScope ["hand", "things", "remain", "found"] ["hand", "things"] (defScope s__law_mixed) := ⟨rfl, rfl, rfl, by decide +kernel, rfl, by decide +kernel, by decide +kernel⟩
def b__law_mixed : S :=
  (seqS (par2 2 3 (callM listG (consA (varM 1) nilA)) (lstM nilV))
  (seqS (whileS (toB (bin2 (cmpI fun i j => decide (i > j)) (callM lenG (consA (varM 2) nilA)) (litM (.int 0)))) (dropS (mutM "list" 3 appendF (consV (toV (mutM "list" 2 popF (consV (toV (callF F__law_draw (consA (varM 0) (consA (toP (callM lenG (consA (varM 2) nilA))) nilA)))) nilV))) nilV))) fuelW)
  (retS (varM 3))))
def F__law_mixed : Fn := fnD 2 b__law_mixed
abbrev s__law_some : Stmt := topS 22
theorem sc__law_some : FnScope ["hand", "items"] ["hand", "items"] (defScope s__law_some) := ⟨rfl, rfl, rfl, by decide +kernel, rfl, by decide +kernel, by decide +kernel⟩
def b__law_some : S :=
  (retS (bin2 ixG (varM 1) (callF F__law_draw (consA (varM 0) (consA (toP (callM lenG (consA (varM 1) nilA))) nilA)))))
def F__law_some : Fn := fnD 0 b__law_some
abbrev s__law_is : Stmt := topS 23
theorem sc__law_is : FnScope ["thing", "due", "one", "its"] ["thing", "due"] (defScope s__law_is) := ⟨rfl, rfl, rfl, by decide +kernel, rfl, by decide +kernel, by decide +kernel⟩
def b__law_is (G : Fn) : S :=
  (seqS (ifS (orM (toB (isaM "tuple" (varM 1))) (toB (isaM "list" (varM 1)))) (seqS (ifS (orM (toB (bin2 neG (isaM "tuple" (varM 1)) (isaM "tuple" (varM 0)))) (toB (bin2 neG (isaM "list" (varM 1)) (isaM "list" (varM 0))))) (retS (litM (.bl false))) nopS)
  (retS (andV (bin2 eqG (callM lenG (consA (varM 0) nilA)) (callM lenG (consA (varM 1) nilA))) (callM allG (consA (lcM (zipI (consV (toV (varM 0)) (consV (toV (varM 1)) nilV))) [2, 3] (tupG 2 (consG (setD 2) (consG (setD 3) nilG))) yesM (toV (callF G (consA (varM 2) (consA (varM 3) nilA))))) nilA))))) nopS)
  (seqS (ifS (orM (toB (isaM "dict" (varM 1))) (toB (isaM "dict" (varM 0)))) (retS (andV (isaM "dict" (varM 1)) (andV (isaM "dict" (varM 0)) (bin2 eqG (varM 0) (varM 1))))) nopS)
  (seqS (ifS (orM (toB (bin2 isG (varM 1) (litM .non))) (toB (bin2 isG (varM 0) (litM .non)))) (retS (andV (bin2 isG (varM 1) (litM .non)) (bin2 isG (varM 0) (litM .non)))) nopS)
  (seqS (ifS (orM (toB (isaM "bool" (varM 1))) (toB (isaM "bool" (varM 0)))) (retS (andV (isaM "bool" (varM 1)) (andV (isaM "bool" (varM 0)) (bin2 eqG (varM 0) (varM 1))))) nopS)
  (seqS (ifS (orM (toB (isaM "str" (varM 1))) (toB (isaM "str" (varM 0)))) (retS (andV (isaM "str" (varM 1)) (andV (isaM "str" (varM 0)) (bin2 eqG (varM 0) (varM 1))))) nopS)
  (retS (andV (isaM "int" (varM 0)) (bin2 eqG (varM 0) (varM 1)))))))))
def F__law_is : Nat → Fn
  | 0 => fnD 2 badS
  | m + 1 => fnD 2 (b__law_is (F__law_is m))
abbrev s__law_weighing : Stmt := topS 27
theorem sc__law_weighing : FnScope ["hand", "n", "coins", "many"] ["hand", "n"] (defScope s__law_weighing) := ⟨rfl, rfl, rfl, by decide +kernel, rfl, by decide +kernel, by decide +kernel⟩
def b__law_weighing : S :=
  (seqS (setS 2 (callF F__law_mixed (consA (varM 0) (consA (toP (rgM1 (fun ds => .fr (.lst ds)) (varM 1))) nilA))))
  (seqS (setS 3 (bin2 addG (litM (.int 1)) (callF F__law_draw (consA (varM 0) (consA (toP (bin2 fdivI (varM 1) (litM (.int 2)))) nilA)))))
  (retS (tupM (consV (toV (callM tupleG (consA (callM sortG (consA (sliceM (varM 2) noPartM (partM (varM 3))) nilA)) nilA))) (consV (toV (callM tupleG (consA (callM sortG (consA (sliceM (varM 2) (partM (varM 3)) (partM (bin2 mulG (litM (.int 2)) (varM 3)))) nilA)) nilA))) nilV))))))
def F__law_weighing : Fn := fnD 2 b__law_weighing
abbrev s__law_cases : Stmt := topS 25
theorem sc__law_cases : FnScope ["n", "kind", "found", "coin"] ["n", "kind"] (defScope s__law_cases) := ⟨rfl, rfl, rfl, by decide +kernel, rfl, by decide +kernel, by decide +kernel⟩
def b__law_cases : S :=
  (seqS (setS 2 (ifM (toB (bin2 eqG (varM 1) (litM (.str "or none")))) (lstM (consV (toV (litM .non)) nilV)) (lstM nilV)))
  (seqS (forS (rng1 (varM 0)) (setD 3) (seqS (ifS (toB (bin2 neG (varM 1) (litM (.str "heavy")))) (dropS (mutM "list" 2 appendF (consV (toV (tupM (consV (toV (varM 3)) (consV (toV (un1 negG (litM (.int 1)))) nilV)))) nilV))) nopS)
  (dropS (mutM "list" 2 appendF (consV (toV (tupM (consV (toV (varM 3)) (consV (toV (litM (.int 1))) nilV)))) nilV)))))
  (retS (varM 2))))
def F__law_cases : Fn := fnD 2 b__law_cases
abbrev s__law_tells : Stmt := topS 26
theorem sc__law_tells : FnScope ["weighing", "case", "left", "right", "coin", "sign"] ["weighing", "case"] (defScope s__law_tells) := ⟨rfl, rfl, rfl, by decide +kernel, rfl, by decide +kernel, by decide +kernel⟩
def b__law_tells : S :=
  (seqS (asgS (tupG 2 (consG (setD 2) (consG (setD 3) nilG))) (toV (varM 0)))
  (seqS (ifS (toB (bin2 isG (varM 1) (litM .non))) (retS (litM (.int 0))) nopS)
  (seqS (asgS (tupG 2 (consG (setD 4) (consG (setD 5) nilG))) (toV (varM 1)))
  (retS (ifM (toB (bin2 inG (varM 4) (varM 2))) (varM 5) (ifM (toB (bin2 inG (varM 4) (varM 3))) (bin2 subI (litM (.int 0)) (varM 5)) (litM (.int 0))))))))
def F__law_tells : Fn := fnD 4 b__law_tells
abbrev s__law_due : Stmt := topS 28
theorem sc__law_due : FnScope ["n", "kind", "weighings", "cases", "told", "i", "one", "j", "case", "weighing"] ["n", "kind", "weighings"] (defScope s__law_due) := ⟨rfl, rfl, rfl, by decide +kernel, rfl, by decide +kernel, by decide +kernel⟩
def b__law_due : S :=
  (seqS (setS 3 (callF F__law_cases (consA (varM 0) (consA (varM 1) nilA))))
  (seqS (setS 4 (lcM (seqN 3) [8] (setD 8) yesM (toV (callM tupleG (consA (lcM (seqN 2) [9] (setD 9) yesM (toV (callF F__law_tells (consA (varM 9) (consA (varM 8) nilA))))) nilA)))))
  (seqS (forS (enumN 4) (tupG 2 (consG (setD 5) (consG (setD 6) nilG))) (forS (rng2 (bin2 addG (varM 5) (litM (.int 1))) (callM lenG (consA (varM 4) nilA))) (setD 7) (ifS (toB (bin2 eqG (bin2 ixG (varM 4) (varM 7)) (varM 6))) (retS (tupM (consV (toV (litM (.str "two"))) (consV (toV (bin2 ixG (varM 3) (varM 5))) (consV (toV (bin2 ixG (varM 3) (varM 7))) nilV))))) nopS)))
  (retS (tupM (consV (toV (litM (.str "told"))) nilV))))))
def F__law_due : Fn := fnD 7 b__law_due
abbrev s__law_is_right : Stmt := topS 29
theorem sc__law_is_right : FnScope ["hand", "n", "kind", "weighings", "told", "order", "called", "left", "right", "weighing", "turn", "coin"] ["hand"] (defScope s__law_is_right) := ⟨rfl, rfl, rfl, by decide +kernel, rfl, by decide +kernel, by decide +kernel⟩
def b__law_is_right : S :=
  (seqS (par2 1 2 (bin2 addG (litM (.int 2)) (callF F__law_draw (consA (varM 0) (consA (litM (.int 11)) nilA)))) (callF F__law_some (consA (varM 0) (consA (toP (lstM (consV (toV (litM (.str "heavy"))) (consV (toV (litM (.str "either"))) (consV (toV (litM (.str "or none"))) nilV))))) nilA))))
  (seqS (setS 3 (callM tupleG (consA (lcM (rng1 (callF F__law_draw (consA (varM 0) (consA (litM (.int 5)) nilA)))) [10] (setD 10) yesM (toV (callF F__law_weighing (consA (varM 0) (consA (varM 1) nilA))))) nilA)))
  (seqS (setS 4 (callF F_told_apart (consA (varM 1) (consA (varM 2) (consA (varM 3) nilA)))))
  (seqS (ifS (notM (toB (callF (F__law_is fuelR) (consA (varM 4) (consA (toP (callF F__law_due (consA (varM 1) (consA (varM 2) (consA (varM 3) nilA))))) nilA))))) (retS (litM (.bl false))) nopS)
  (seqS (ifS (toB (bin2 eqG (bin2 ixG (varM 4) (litM (.int 0))) (litM (.str "two")))) (forS (seqN 3) (setD 9) (ifS (toB (bin2 neG (callF F__law_tells (consA (varM 9) (consA (toP (bin2 ixG (varM 4) (litM (.int 1)))) nilA))) (callF F__law_tells (consA (varM 9) (consA (toP (bin2 ixG (varM 4) (litM (.int 2)))) nilA))))) (retS (litM (.bl false))) nopS)) nopS)
  (seqS (ifS (andM (toB (bin2 eqG (bin2 ixG (varM 4) (litM (.int 0))) (litM (.str "told")))) (toB (bin2 (cmpI fun i j => decide (i < j)) (callM lenG (consA (varM 3) nilA)) (litM (.int 4))))) (ifS (toB (bin2 neG (callF F_told_apart (consA (varM 1) (consA (varM 2) (consA (toP (bin2 addG (varM 3) (tupM (consV (toV (callF F__law_weighing (consA (varM 0) (consA (varM 1) nilA)))) nilV)))) nilA)))) (tupM (consV (toV (litM (.str "told"))) nilV)))) (retS (litM (.bl false))) nopS) nopS)
  (seqS (setS 5 (callF F__law_mixed (consA (varM 0) (consA (toP (rgM1 (fun ds => .fr (.lst ds)) (varM 1))) nilA))))
  (seqS (setS 6 (lstM nilV))
  (seqS (forS (seqN 3) (tupG 2 (consG (setD 7) (consG (setD 8) nilG))) (dropS (mutM "list" 6 appendF (consV (toV (tupM (consV (toV (callM tupleG (consA (callM sortG (consA (lcM (seqN 7) [11] (setD 11) yesM (toV (bin2 ixG (varM 5) (varM 11)))) nilA)) nilA))) (consV (toV (callM tupleG (consA (callM sortG (consA (lcM (seqN 8) [11] (setD 11) yesM (toV (bin2 ixG (varM 5) (varM 11)))) nilA)) nilA))) nilV)))) nilV))))
  (retS (bin2 eqG (bin2 ixG (callF F_told_apart (consA (varM 1) (consA (varM 2) (consA (toP (callM tupleG (consA (varM 6) nilA))) nilA)))) (litM (.int 0))) (bin2 ixG (varM 4) (litM (.int 0))))))))))))))
def F__law_is_right : Fn := fnD 11 b__law_is_right
abbrev s__law_threes : Stmt := topS 30
theorem sc__law_threes : FnScope ["n", "found", "power", "left", "right", "coin"] ["n"] (defScope s__law_threes) := ⟨rfl, rfl, rfl, by decide +kernel, rfl, by decide +kernel, by decide +kernel⟩
def b__law_threes : S :=
  (seqS (par2 1 2 (lstM nilV) (litM (.int 1)))
  (seqS (whileS (toB (bin2 (cmpI fun i j => decide (i < j)) (varM 2) (varM 0))) (seqS (setS 3 (callM tupleG (consA (lcM (rng1 (varM 0)) [5] (setD 5) (toB (bin2 eqG (bin2 modI (callM intG (consA (bin2 fdivI (varM 5) (varM 2)) nilA)) (litM (.int 3))) (litM (.int 0)))) (toV (varM 5))) nilA)))
  (seqS (setS 4 (callM tupleG (consA (lcM (rng1 (varM 0)) [5] (setD 5) (toB (bin2 eqG (bin2 modI (callM intG (consA (bin2 fdivI (varM 5) (varM 2)) nilA)) (litM (.int 3))) (litM (.int 1)))) (toV (varM 5))) nilA)))
  (seqS (dropS (mutM "list" 1 appendF (consV (toV (tupM (consV (toV (varM 3)) (consV (toV (varM 4)) nilV)))) nilV)))
  (setS 2 (bin2 mulG (litM (.int 3)) (varM 2)))))) fuelW)
  (retS (callM tupleG (consA (varM 1) nilA)))))
def F__law_threes : Fn := fnD 5 b__law_threes
abbrev s_law : Stmt := topS 31
theorem sc_law : FnScope ["script", "hand", "turn"] ["script"] (defScope s_law) := ⟨rfl, rfl, rfl, by decide +kernel, rfl, by decide +kernel, by decide +kernel⟩
def b_law : S :=
  (seqS (setS 1 (callF F__law_hand (consA (varM 0) nilA)))
  (seqS (ifS (orM (toB (bin2 neG (callF F_told_apart (consA (litM (.int 3)) (consA (litM (.str "heavy")) (consA (toP (callF F__law_threes (consA (litM (.int 3)) nilA))) nilA)))) (tupM (consV (toV (litM (.str "told"))) nilV)))) (toB (bin2 neG (callF F_told_apart (consA (litM (.int 9)) (consA (litM (.str "heavy")) (consA (toP (callF F__law_threes (consA (litM (.int 9)) nilA))) nilA)))) (tupM (consV (toV (litM (.str "told"))) nilV))))) (retS (litM (.bl false))) nopS)
  (seqS (ifS (toB (bin2 neG (callF F_told_apart (consA (litM (.int 2)) (consA (litM (.str "heavy")) (consA (tupM nilV) nilA)))) (tupM (consV (toV (litM (.str "two"))) (consV (toV (tupM (consV (toV (litM (.int 0))) (consV (toV (litM (.int 1))) nilV)))) (consV (toV (tupM (consV (toV (litM (.int 1))) (consV (toV (litM (.int 1))) nilV)))) nilV)))))) (retS (litM (.bl false))) nopS)
  (seqS (ifS (toB (bin2 neG (callF F_told_apart (consA (litM (.int 1)) (consA (litM (.str "or none")) (consA (tupM nilV) nilA)))) (tupM (consV (toV (litM (.str "two"))) (consV (toV (litM .non)) (consV (toV (tupM (consV (toV (litM (.int 0))) (consV (toV (un1 negG (litM (.int 1)))) nilV)))) nilV)))))) (retS (litM (.bl false))) nopS)
  (seqS (ifS (toB (bin2 neG (callF F_told_apart (consA (litM (.int 2)) (consA (litM (.str "either")) (consA (tupM (consV (toV (tupM (consV (toV (tupM (consV (toV (litM (.int 0))) nilV))) (consV (toV (tupM (consV (toV (litM (.int 1))) nilV))) nilV)))) nilV)) nilA)))) (tupM (consV (toV (litM (.str "two"))) (consV (toV (tupM (consV (toV (litM (.int 0))) (consV (toV (un1 negG (litM (.int 1)))) nilV)))) (consV (toV (tupM (consV (toV (litM (.int 1))) (consV (toV (litM (.int 1))) nilV)))) nilV)))))) (retS (litM (.bl false))) nopS)
  (seqS (ifS (toB (bin2 neG (callF F_told_apart (consA (litM (.int 1)) (consA (litM (.str "heavy")) (consA (tupM nilV) nilA)))) (tupM (consV (toV (litM (.str "told"))) nilV)))) (retS (litM (.bl false))) nopS)
  (retS (callM allG (consA (lcM (rng1 (litM (.int 6))) [2] (setD 2) yesM (toV (callF F__law_is_right (consA (varM 1) nilA)))) nilA)))))))))
def F_law : Fn := fnD 2 b_law
/-! ### what the top leaves -/
structure Fc (K : PySem.W.Frag) (mg : Str → Option Value) where
  f__law_hand : Addr
  d__law_hand : FuncData
  F__law_hand : Fun K "_law_hand" "_law_hand" s__law_hand f__law_hand d__law_hand
  g__law_hand : mg "_law_hand" = some (.ref f__law_hand)
  k__law_hand : PySem.W.keepIn K (.ref f__law_hand) = true
  b__law_hand : Binds K d__law_hand ["script"] []
  f_is_integer : Addr
  d_is_integer : FuncData
  F_is_integer : Fun K "is_integer" "is_integer" s_is_integer f_is_integer d_is_integer
  g_is_integer : mg "is_integer" = some (.ref f_is_integer)
  k_is_integer : PySem.W.keepIn K (.ref f_is_integer) = true
  b_is_integer : Binds K d_is_integer ["thing"] []
  f_is_within : Addr
  d_is_within : FuncData
  F_is_within : Fun K "is_within" "is_within" s_is_within f_is_within d_is_within
  g_is_within : mg "is_within" = some (.ref f_is_within)
  k_is_within : PySem.W.keepIn K (.ref f_is_within) = true
  b_is_within : Binds K d_is_within ["thing", "low", "high"] []
  f_check_coins : Addr
  d_check_coins : FuncData
  F_check_coins : Fun K "check_coins" "check_coins" s_check_coins f_check_coins d_check_coins
  g_check_coins : mg "check_coins" = some (.ref f_check_coins)
  k_check_coins : PySem.W.keepIn K (.ref f_check_coins) = true
  b_check_coins : Binds K d_check_coins ["n"] []
  f_check_kind : Addr
  d_check_kind : FuncData
  F_check_kind : Fun K "check_kind" "check_kind" s_check_kind f_check_kind d_check_kind
  g_check_kind : mg "check_kind" = some (.ref f_check_kind)
  k_check_kind : PySem.W.keepIn K (.ref f_check_kind) = true
  b_check_kind : Binds K d_check_kind ["kind"] []
  f_cases_of : Addr
  d_cases_of : FuncData
  F_cases_of : Fun K "cases_of" "cases_of" s_cases_of f_cases_of d_cases_of
  g_cases_of : mg "cases_of" = some (.ref f_cases_of)
  k_cases_of : PySem.W.keepIn K (.ref f_cases_of) = true
  b_cases_of : Binds K d_cases_of ["n", "kind"] []
  f_is_tuple : Addr
  d_is_tuple : FuncData
  F_is_tuple : Fun K "is_tuple" "is_tuple" s_is_tuple f_is_tuple d_is_tuple
  g_is_tuple : mg "is_tuple" = some (.ref f_is_tuple)
  k_is_tuple : PySem.W.keepIn K (.ref f_is_tuple) = true
  b_is_tuple : Binds K d_is_tuple ["thing", "least", "most"] []
  f_told_by : Addr
  d_told_by : FuncData
  F_told_by : Fun K "told_by" "told_by" s_told_by f_told_by d_told_by
  g_told_by : mg "told_by" = some (.ref f_told_by)
  k_told_by : PySem.W.keepIn K (.ref f_told_by) = true
  b_told_by : Binds K d_told_by ["weighing", "case"] []
  f_is_lot : Addr
  d_is_lot : FuncData
  F_is_lot : Fun K "is_lot" "is_lot" s_is_lot f_is_lot d_is_lot
  g_is_lot : mg "is_lot" = some (.ref f_is_lot)
  k_is_lot : PySem.W.keepIn K (.ref f_is_lot) = true
  b_is_lot : Binds K d_is_lot ["thing", "many"] []
  f_is_weighing : Addr
  d_is_weighing : FuncData
  F_is_weighing : Fun K "is_weighing" "is_weighing" s_is_weighing f_is_weighing d_is_weighing
  g_is_weighing : mg "is_weighing" = some (.ref f_is_weighing)
  k_is_weighing : PySem.W.keepIn K (.ref f_is_weighing) = true
  b_is_weighing : Binds K d_is_weighing ["n", "thing"] []
  f_told_apart : Addr
  d_told_apart : FuncData
  F_told_apart : Fun K "told_apart" "told_apart" s_told_apart f_told_apart d_told_apart
  g_told_apart : mg "told_apart" = some (.ref f_told_apart)
  k_told_apart : PySem.W.keepIn K (.ref f_told_apart) = true
  b_told_apart : Binds K d_told_apart ["n", "kind", "weighings"] []
  f__law_draw : Addr
  d__law_draw : FuncData
  F__law_draw : Fun K "_law_draw" "_law_draw" s__law_draw f__law_draw d__law_draw
  g__law_draw : mg "_law_draw" = some (.ref f__law_draw)
  k__law_draw : PySem.W.keepIn K (.ref f__law_draw) = true
  b__law_draw : Binds K d__law_draw ["hand", "limit"] []
  f__law_mixed : Addr
  d__law_mixed : FuncData
  F__law_mixed : Fun K "_law_mixed" "_law_mixed" s__law_mixed f__law_mixed d__law_mixed
  g__law_mixed : mg "_law_mixed" = some (.ref f__law_mixed)
  k__law_mixed : PySem.W.keepIn K (.ref f__law_mixed) = true
  b__law_mixed : Binds K d__law_mixed ["hand", "things"] []
  f__law_some : Addr
  d__law_some : FuncData
  F__law_some : Fun K "_law_some" "_law_some" s__law_some f__law_some d__law_some
  g__law_some : mg "_law_some" = some (.ref f__law_some)
  k__law_some : PySem.W.keepIn K (.ref f__law_some) = true
  b__law_some : Binds K d__law_some ["hand", "items"] []
  f__law_is : Addr
  d__law_is : FuncData
  F__law_is : Fun K "_law_is" "_law_is" s__law_is f__law_is d__law_is
  g__law_is : mg "_law_is" = some (.ref f__law_is)
  k__law_is : PySem.W.keepIn K (.ref f__law_is) = true
  b__law_is : Binds K d__law_is ["thing", "due"] []
  f__law_weighing : Addr
  d__law_weighing : FuncData
  F__law_weighing : Fun K "_law_weighing" "_law_weighing" s__law_weighing f__law_weighing d__law_weighing
  g__law_weighing : mg "_law_weighing" = some (.ref f__law_weighing)
  k__law_weighing : PySem.W.keepIn K (.ref f__law_weighing) = true
  b__law_weighing : Binds K d__law_weighing ["hand", "n"] []
  f__law_cases : Addr
  d__law_cases : FuncData
  F__law_cases : Fun K "_law_cases" "_law_cases" s__law_cases f__law_cases d__law_cases
  g__law_cases : mg "_law_cases" = some (.ref f__law_cases)
  k__law_cases : PySem.W.keepIn K (.ref f__law_cases) = true
  b__law_cases : Binds K d__law_cases ["n", "kind"] []
  f__law_tells : Addr
  d__law_tells : FuncData
  F__law_tells : Fun K "_law_tells" "_law_tells" s__law_tells f__law_tells d__law_tells
  g__law_tells : mg "_law_tells" = some (.ref f__law_tells)
  k__law_tells : PySem.W.keepIn K (.ref f__law_tells) = true
  b__law_tells : Binds K d__law_tells ["weighing", "case"] []
  f__law_due : Addr
  d__law_due : FuncData
  F__law_due : Fun K "_law_due" "_law_due" s__law_due f__law_due d__law_due
  g__law_due : mg "_law_due" = some (.ref f__law_due)
  k__law_due : PySem.W.keepIn K (.ref f__law_due) = true
  b__law_due : Binds K d__law_due ["n", "kind", "weighings"] []
  f__law_is_right : Addr
  d__law_is_right : FuncData
  F__law_is_right : Fun K "_law_is_right" "_law_is_right" s__law_is_right f__law_is_right d__law_is_right
  g__law_is_right : mg "_law_is_right" = some (.ref f__law_is_right)
  k__law_is_right : PySem.W.keepIn K (.ref f__law_is_right) = true
  b__law_is_right : Binds K d__law_is_right ["hand"] []
  f__law_threes : Addr
  d__law_threes : FuncData
  F__law_threes : Fun K "_law_threes" "_law_threes" s__law_threes f__law_threes d__law_threes
  g__law_threes : mg "_law_threes" = some (.ref f__law_threes)
  k__law_threes : PySem.W.keepIn K (.ref f__law_threes) = true
  b__law_threes : Binds K d__law_threes ["n"] []
  f_law : Addr
  d_law : FuncData
  F_law : Fun K "law" "law" s_law f_law d_law
  g_law : mg "law" = some (.ref f_law)
  k_law : PySem.W.keepIn K (.ref f_law) = true
  b_law : Binds K d_law ["script"] []
  n_abs : mg "abs" = none
  n_all : mg "all" = none
  n_any : mg "any" = none
  n_bool : mg "bool" = none
  n_dict : mg "dict" = none
  n_enumerate : mg "enumerate" = none
  n_int : mg "int" = none
  n_isinstance : mg "isinstance" = none
  n_len : mg "len" = none
  n_list : mg "list" = none
  n_range : mg "range" = none
  n_sorted : mg "sorted" = none
  n_str : mg "str" = none
  n_tuple : mg "tuple" = none
  n_zip : mg "zip" = none
  i_MOST_COINS : ∃ t, mg "MOST_COINS" = some (.int 12 t)
  i_MOST_WEIGHINGS : ∃ t, mg "MOST_WEIGHINGS" = some (.int 4 t)
section
variable {P : Program} {w : World} {K : PySem.W.Frag} {mg : Str → Option Value} {base : Heap}
theorem ok__law_hand (c : Fc K mg) {k : Nat} : FnOk P w K mg base (L2.CX P w) (k + 1) c.f__law_hand c.d__law_hand ["script"] (spD K mg 1 F__law_hand) :=
  fn_ok (k := k + 0) c.F__law_hand sc__law_hand rfl fun cdv A outer s H E hr =>
    (dss_cons (ds_setLc 1 rfl sc__law_hand.nd (sw_true rfl rfl rfl rfl) (di_val (DE.toV (de_slice (de_var 0) do_none (do_some de_int)))) (own := [("cell", 2)]) (blk_ok (by rfl)) (by decide) (fun _ _ _ _ _ => (dgc_name 2 sc__law_hand.nd)) (fun _ _ _ _ _ => dts_nil) (fun _ _ _ _ _ => (DE.toV (de_callB cd_abs rfl c.n_abs (by first | rfl | decide +kernel) (da_cons (de_callTy cd_int rfl c.n_int (by first | rfl | decide +kernel) (da_cons (de_var 2) da_nil)) da_nil)))))
    (dss_one (ds_ret (de_lst (dav_cons (DE.toV (de_var 1)) (dav_cons (DE.toV de_int) (dav_cons (DE.toV de_int) (dav_cons (DE.toV (de_bin od_add de_int (de_callB cd_len rfl c.n_len (by first | rfl | decide +kernel) (da_cons (de_var 1) da_nil)))) (dav_cons (DE.toV de_int) dav_nil)))))))))
theorem ok_is_integer (c : Fc K mg) {k : Nat} : FnOk P w K mg base (L2.CX P w) (k + 1) c.f_is_integer c.d_is_integer ["thing"] (spD K mg 1 F_is_integer) :=
  fn_ok (k := k + 0) c.F_is_integer sc_is_integer rfl fun cdv A outer s H E hr =>
    (dss_one (ds_ret (de_and (de_isa (de_var 0) rfl c.n_isinstance rfl c.n_int rfl) (de_one (de_not (de_isa (de_var 0) rfl c.n_isinstance rfl c.n_bool rfl))))))
theorem ok_is_within (c : Fc K mg) {k : Nat} : FnOk P w K mg base (L2.CX P w) (k + 2) c.f_is_within c.d_is_within ["thing", "low", "high"] (spD K mg 3 F_is_within) :=
  fn_ok (k := k + 1) c.F_is_within sc_is_within rfl fun cdv A outer s H E hr =>
    (dss_one (ds_ret (de_and (de_call (ok_is_integer c (k := k)) (fn_al rfl) hr rfl c.g_is_integer c.k_is_integer c.b_is_integer (takes_of rfl rfl rfl rfl) (da_cons (de_var 0) da_nil) (hlen := (consA_len nilA_len))) (de_one (de_chain od_leI od_leI (de_var 1) (de_var 0) (de_var 2))))))
theorem ok_check_coins (c : Fc K mg) {k : Nat} : FnOk P w K mg base (L2.CX P w) (k + 3) c.f_check_coins c.d_check_coins ["n"] (spD K mg 1 F_check_coins) :=
  fn_ok (k := k + 2) c.F_check_coins sc_check_coins rfl fun cdv A outer s H E hr =>
    (dss_one (ds_if (dt_not (DE.toT (de_call (ok_is_within c (k := k)) (fn_al rfl) hr rfl c.g_is_within c.k_is_within c.b_is_within (takes_of rfl rfl rfl rfl) (da_cons (de_var 0) (da_cons de_int (da_cons (de_globI rfl c.i_MOST_COINS) da_nil))) (hlen := (consA_len (consA_len (consA_len nilA_len))))))) (dss_one ds_bad) dss_nil))
theorem ok_check_kind (c : Fc K mg) {k : Nat} : FnOk P w K mg base (L2.CX P w) (k + 1) c.f_check_kind c.d_check_kind ["kind"] (spD K mg 1 F_check_kind) :=
  fn_ok (k := k + 0) c.F_check_kind sc_check_kind rfl fun cdv A outer s H E hr =>
    (dss_one (ds_if (DW.pt (dw_or (dt_not (DE.toT (de_isa (de_var 0) rfl c.n_isinstance rfl c.n_str rfl))) (dw_or1 (dt_cmp (od_ninG hr.units) (de_var 0) (de_tup (dav_cons (DE.toV de_str) (dav_cons (DE.toV de_str) (dav_cons (DE.toV de_str) dav_nil)))))))) (dss_one ds_bad) dss_nil))
theorem ok_cases_of (c : Fc K mg) {k : Nat} : FnOk P w K mg base (L2.CX P w) (k + 1) c.f_cases_of c.d_cases_of ["n", "kind"] (spD K mg 2 F_cases_of) :=
  fn_ok (k := k + 0) c.F_cases_of sc_cases_of rfl fun cdv A outer s H E hr =>
    (dss_cons (ds_if (dt_cmp (od_eqG hr.units) (de_var 1) de_str) (dss_one (ds_ret (de_lc rfl sc_cases_of.nd (di_range1 rfl c.n_range (de_var 0)) (own := [("coin", 3)]) (blk_ok (by rfl)) (by decide) (fun _ _ _ _ _ => (dgc_name 3 sc_cases_of.nd)) (fun _ _ _ _ _ => dts_nil) (fun _ _ _ _ _ => (DE.toV (de_tup (dav_cons (DE.toV (de_var 3)) (dav_cons (DE.toV de_int) dav_nil)))))))) dss_nil)
    (dss_cons (ds_set 2 (de_ife (dt_cmp (od_eqG hr.units) (de_var 1) de_str) (de_lst (dav_cons (DE.toV de_non) dav_nil)) (de_lst dav_nil)) sc_cases_of.nd)
    (dss_cons (ds_for (passes_of rfl) rfl (di_range1 rfl c.n_range (de_var 0)) (dg_name 3 sc_cases_of.nd) (dss_one (ds_expr (de_ext 2 (de_lst (dav_cons (DE.toV (de_tup (dav_cons (DE.toV (de_var 3)) (dav_cons (DE.toV (de_neg de_int)) dav_nil)))) (dav_cons (DE.toV (de_tup (dav_cons (DE.toV (de_var 3)) (dav_cons (DE.toV de_int) dav_nil)))) dav_nil)))))))
    (dss_one (ds_ret (de_var 2))))))
theorem ok_is_tuple (c : Fc K mg) {k : Nat} : FnOk P w K mg base (L2.CX P w) (k + 1) c.f_is_tuple c.d_is_tuple ["thing", "least", "most"] (spD K mg 3 F_is_tuple) :=
  fn_ok (k := k + 0) c.F_is_tuple sc_is_tuple rfl fun cdv A outer s H E hr =>
    (dss_one (ds_ret (de_and (de_isa (de_var 0) rfl c.n_isinstance rfl c.n_tuple rfl) (de_one (de_chain od_leI od_leI (de_var 1) (de_callB cd_len rfl c.n_len (by first | rfl | decide +kernel) (da_cons (de_var 0) da_nil)) (de_var 2))))))
theorem ok_told_by (c : Fc K mg) {k : Nat} : FnOk P w K mg base (L2.CX P w) (k + 1) c.f_told_by c.d_told_by ["weighing", "case"] (spD K mg 2 F_told_by) :=
  fn_ok (k := k + 0) c.F_told_by sc_told_by rfl fun cdv A outer s H E hr =>
    (dss_cons (ds_if (dt_cmp od_isG (de_var 1) de_non) (dss_one (ds_ret de_int)) dss_nil)
    (dss_cons (ds_asg (DE.toV (de_var 1)) (dg_tup rfl (dgs_cons (dg_name 2 sc_told_by.nd) (dgs_cons (dg_name 3 sc_told_by.nd) dgs_nil))))
    (dss_one (ds_ret (de_ife (dt_cmp (od_inG hr.units) (de_var 2) (de_ix ixd_seq (de_var 0) de_int)) (de_var 3) (de_ife (dt_cmp (od_inG hr.units) (de_var 2) (de_ix ixd_seq (de_var 0) de_int)) (de_bin od_subI de_int (de_var 3)) de_int))))))
theorem ok_is_lot (c : Fc K mg) {k : Nat} : FnOk P w K mg base (L2.CX P w) (k + 3) c.f_is_lot c.d_is_lot ["thing", "many"] (spD K mg 2 F_is_lot) :=
  fn_ok (k := k + 2) c.F_is_lot sc_is_lot rfl fun cdv A outer s H E hr =>
    (dss_cons (ds_if (DW.pt (dw_or (dt_not (DE.toT (de_isa (de_var 0) rfl c.n_isinstance rfl c.n_tuple rfl))) (dw_or1 (dt_not (DE.toT (de_callB (cd_all rfl) rfl c.n_all (by first | rfl | decide +kernel) (da_cons (de_lc rfl sc_is_lot.nd (di_var 0) (own := [("one", 2)]) (blk_ok (by rfl)) (by decide) (fun _ _ _ _ _ => (dgc_name 2 sc_is_lot.nd)) (fun _ _ _ _ _ => dts_nil) (fun _ _ _ _ _ => (DE.toV (de_call (ok_is_within c (k := k)) (fn_al rfl) hr rfl c.g_is_within c.k_is_within c.b_is_within takes0 (da_cons (de_var 2) (da_cons de_int (da_cons (DE.toP (de_bin od_subI (de_var 1) de_int)) da_nil))) (hlen := (consA_len (consA_len (consA_len nilA_len)))))))) da_nil))))))) (dss_one (ds_ret de_bl)) dss_nil)
    (dss_one (ds_ret (de_callB (cd_all rfl) rfl c.n_all (by first | rfl | decide +kernel) (da_cons (de_lc rfl sc_is_lot.nd (di_zip rfl c.n_zip (dav_cons (DE.toV (de_var 0)) (dav_cons (DE.toV (de_slice (de_var 0) (do_some de_int) do_none)) dav_nil))) (own := [("one", 2), ("other", 3)]) (blk_ok (by rfl)) (by decide) (fun _ _ _ _ _ => (dgc_tup rfl (dgcs_cons (dgc_name 2 sc_is_lot.nd) (dgcs_cons (dgc_name 3 sc_is_lot.nd) dgcs_nil)))) (fun _ _ _ _ _ => dts_nil) (fun _ _ _ _ _ => (DE.toV (de_cmp od_ltI (de_var 2) (de_var 3))))) da_nil)))))
theorem ok_is_weighing (c : Fc K mg) {k : Nat} : FnOk P w K mg base (L2.CX P w) (k + 4) c.f_is_weighing c.d_is_weighing ["n", "thing"] (spD K mg 2 F_is_weighing) :=
  fn_ok (k := k + 3) c.F_is_weighing sc_is_weighing rfl fun cdv A outer s H E hr =>
    (dss_cons (ds_if (DW.pt (dw_or (dt_not (DE.toT (de_call (ok_is_tuple c (k := k + 2)) (fn_al rfl) hr rfl c.g_is_tuple c.k_is_tuple c.b_is_tuple (takes_of rfl rfl rfl rfl) (da_cons (de_var 1) (da_cons de_int (da_cons de_int da_nil))) (hlen := (consA_len (consA_len (consA_len nilA_len))))))) (dw_or1 (dt_not (DE.toT (de_callB (cd_all rfl) rfl c.n_all (by first | rfl | decide +kernel) (da_cons (de_lc rfl sc_is_weighing.nd (di_var 1) (own := [("lot", 2)]) (blk_ok (by rfl)) (by decide) (fun _ _ _ _ _ => (dgc_name 2 sc_is_weighing.nd)) (fun _ _ _ _ _ => dts_nil) (fun _ _ _ _ _ => (DE.toV (de_and (de_call (ok_is_lot c (k := k)) (fn_al rfl) hr rfl c.g_is_lot c.k_is_lot c.b_is_lot takes0 (da_cons (de_var 2) (da_cons (de_var 0) da_nil)) (hlen := (consA_len (consA_len nilA_len)))) (de_one (de_cmp od_gtI (de_callB cd_len rfl c.n_len (by first | rfl | decide +kernel) (da_cons (de_var 2) da_nil)) de_int)))))) da_nil))))))) (dss_one (ds_ret de_bl)) dss_nil)
    (dss_one (ds_ret (de_and (de_cmp (od_eqG hr.units) (de_callB cd_len rfl c.n_len (by first | rfl | decide +kernel) (da_cons (de_ix ixd_seq (de_var 1) de_int) da_nil)) (de_callB cd_len rfl c.n_len (by first | rfl | decide +kernel) (da_cons (de_ix ixd_seq (de_var 1) de_int) da_nil))) (de_one (de_not (de_callB (cd_any rfl) rfl c.n_any (by first | rfl | decide +kernel) (da_cons (de_lc rfl sc_is_weighing.nd (di_val (DE.toV (de_ix ixd_seq (de_var 1) de_int))) (own := [("coin", 3)]) (blk_ok (by rfl)) (by decide) (fun _ _ _ _ _ => (dgc_name 3 sc_is_weighing.nd)) (fun _ _ _ _ _ => dts_nil) (fun _ _ _ _ _ => (DE.toV (de_cmp (od_inG hr.units) (de_var 3) (de_ix ixd_seq (de_var 1) de_int))))) da_nil))))))))
theorem ok_told_apart (c : Fc K mg) {k : Nat} : FnOk P w K mg base (L2.CX P w) (k + 5) c.f_told_apart c.d_told_apart ["n", "kind", "weighings"] (spD K mg 3 F_told_apart) :=
  fn_ok (k := k + 4) c.F_told_apart sc_told_apart rfl fun cdv A outer s H E hr =>
    (dss_cons (ds_expr (de_call (ok_check_coins c (k := k + 1)) (fn_al rfl) hr rfl c.g_check_coins c.k_check_coins c.b_check_coins (takes_of rfl rfl rfl rfl) (da_cons (de_var 0) da_nil) (hlen := (consA_len nilA_len))))
    (dss_cons (ds_expr (de_call (ok_check_kind c (k := k + 3)) (fn_al rfl) hr rfl c.g_check_kind c.k_check_kind c.b_check_kind (takes_of rfl rfl rfl rfl) (da_cons (de_var 1) da_nil) (hlen := (consA_len nilA_len))))
    (dss_cons (ds_if (DW.pt (dw_or (dt_not (DE.toT (de_call (ok_is_tuple c (k := k + 3)) (fn_al rfl) hr rfl c.g_is_tuple c.k_is_tuple c.b_is_tuple (takes_of rfl rfl rfl rfl) (da_cons (de_var 2) (da_cons de_int (da_cons (de_globI rfl c.i_MOST_WEIGHINGS) da_nil))) (hlen := (consA_len (consA_len (consA_len nilA_len))))))) (dw_or1 (dt_not (DE.toT (de_callB (cd_all rfl) rfl c.n_all (by first | rfl | decide +kernel) (da_cons (de_lc rfl sc_told_apart.nd (di_var 2) (own := [("one", 9)]) (blk_ok (by rfl)) (by decide) (fun _ _ _ _ _ => (dgc_name 9 sc_told_apart.nd)) (fun _ _ _ _ _ => dts_nil) (fun _ _ _ _ _ => (DE.toV (de_call (ok_is_weighing c (k := k)) (fn_al rfl) hr rfl c.g_is_weighing c.k_is_weighing c.b_is_weighing takes0 (da_cons (de_var 0) (da_cons (de_var 9) da_nil)) (hlen := (consA_len (consA_len nilA_len))))))) da_nil))))))) (dss_one ds_bad) dss_nil)
    (dss_cons (ds_set 3 (de_call (ok_cases_of c (k := k + 3)) (fn_al rfl) hr rfl c.g_cases_of c.k_cases_of c.b_cases_of (takes_of rfl rfl rfl rfl) (da_cons (de_var 0) (da_cons (de_var 1) da_nil)) (hlen := (consA_len (consA_len nilA_len)))) sc_told_apart.nd)
    (dss_cons (ds_setLc 4 rfl sc_told_apart.nd (sw_true rfl rfl rfl rfl) (di_var 3) (own := [("case", 6)]) (blk_ok (by rfl)) (by decide) (fun _ _ _ _ _ => (dgc_name 6 sc_told_apart.nd)) (fun _ _ _ _ _ => dts_nil) (fun _ _ _ _ _ => (DE.toV (de_lc rfl sc_told_apart.nd (di_var 2) (own := [("weighing", 8)]) (blk_ok (by rfl)) (by decide) (fun _ _ _ _ _ => (dgc_name 8 sc_told_apart.nd)) (fun _ _ _ _ _ => dts_nil) (fun _ _ _ _ _ => (DE.toV (de_call (ok_told_by c (k := k + 3)) (fn_al rfl) hr rfl c.g_told_by c.k_told_by c.b_told_by takes0 (da_cons (de_var 8) (da_cons (de_var 6) da_nil)) (hlen := (consA_len (consA_len nilA_len))))))))))
    (dss_cons (ds_for (passes_of rfl) rfl (di_enum 3 rfl c.n_enumerate) (dg_tup rfl (dgs_cons (dg_name 5 sc_told_apart.nd) (dgs_cons (dg_name 6 sc_told_apart.nd) dgs_nil))) (dss_one (ds_for (passes_of rfl) rfl (di_range2 rfl c.n_range (de_bin od_add (de_var 5) de_int) (de_callB cd_len rfl c.n_len (by first | rfl | decide +kernel) (da_cons (de_var 3) da_nil))) (dg_name 7 sc_told_apart.nd) (dss_one (ds_if (dt_cmp (od_eqG hr.units) (de_ix ixd_seq (de_var 4) (de_var 5)) (de_ix ixd_seq (de_var 4) (de_var 7))) (dss_one (ds_ret (de_tup (dav_cons (DE.toV de_str) (dav_cons (DE.toV (de_var 6)) (dav_cons (DE.toV (de_ix ixd_seq (de_var 3) (de_var 7))) dav_nil)))))) dss_nil)))))
    (dss_one (ds_ret (de_tup (dav_cons (DE.toV de_str) dav_nil))))))))))
theorem ok__law_draw (c : Fc K mg) {k : Nat} : FnOk P w K mg base (L2.CX P w) (k + 1) c.f__law_draw c.d__law_draw ["hand", "limit"] (spD K mg 2 F__law_draw) :=
  fn_ok (k := k + 0) c.F__law_draw sc__law_draw rfl fun cdv A outer s H E hr =>
    (dss_cons (ds_if (DW.pt (dw_and (dt_cmp (od_eqG hr.units) (de_ix ixd_seq (de_var 0) de_int) de_int) (dw_and1 (dt_cmp od_ltI (de_ix ixd_seq (de_var 0) de_int) (de_callB cd_len rfl c.n_len (by first | rfl | decide +kernel) (da_cons (de_ix ixd_seq (de_var 0) de_int) da_nil)))))) (dss_cons (ds_set 3 (de_ix ixd_seq (de_ix ixd_seq (de_var 0) de_int) (de_ix ixd_seq (de_var 0) de_int)) sc__law_draw.nd)
    (dss_cons (ds_setIx 0 (DE.toV (de_bin od_add (de_ix ixd_seq (de_var 0) de_int) de_int)) de_int)
    (dss_cons (ds_setIx 0 (DE.toV (de_bin od_modI (de_callTy cd_int rfl c.n_int (by first | rfl | decide +kernel) (da_cons (de_bin od_add (de_bin od_add (de_bin od_mul (de_ix ixd_seq (de_var 0) de_int) de_int) (de_var 3)) de_int) da_nil)) de_int)) de_int)
    (dss_one (ds_if (dt_cmp od_geI (de_var 3) (de_bin od_powI de_int de_int)) (dss_one (ds_setIx 0 (DE.toV (de_var 3)) de_int)) dss_nil))))) dss_nil)
    (dss_cons (ds_if (dt_cmp od_gtI (de_ix ixd_seq (de_var 0) de_int) de_int) (dss_cons (ds_set 4 (de_bin od_modI (de_callTy cd_int rfl c.n_int (by first | rfl | decide +kernel) (da_cons (de_ix ixd_seq (de_var 0) de_int) da_nil)) (de_var 1)) sc__law_draw.nd)
    (dss_cons (ds_setIx 0 (DE.toV (de_bin od_fdivI (de_ix ixd_seq (de_var 0) de_int) (de_var 1))) de_int)
    (dss_one (ds_ret (de_var 4))))) dss_nil)
    (dss_cons (ds_setIx 0 (DE.toV (de_bin od_add (de_ix ixd_seq (de_var 0) de_int) de_int)) de_int)
    (dss_cons (ds_set 2 (de_bin od_modI (de_callTy cd_int rfl c.n_int (by first | rfl | decide +kernel) (da_cons (de_bin od_mul (de_callTy cd_int rfl c.n_int (by first | rfl | decide +kernel) (da_cons (de_bin od_add (de_ix ixd_seq (de_var 0) de_int) (de_bin od_mul de_int (de_ix ixd_seq (de_var 0) de_int))) da_nil)) de_int) da_nil)) de_int) sc__law_draw.nd)
    (dss_cons (ds_set 2 (de_bin od_modI (de_callTy cd_int rfl c.n_int (by first | rfl | decide +kernel) (da_cons (de_bin od_mul (de_var 2) (de_bin od_add (de_bin od_fdivI (de_var 2) de_int) de_int)) da_nil)) de_int) sc__law_draw.nd)
    (dss_cons (ds_set 2 (de_bin od_modI (de_callTy cd_int rfl c.n_int (by first | rfl | decide +kernel) (da_cons (de_bin od_mul (de_var 2) (de_bin od_add (de_bin od_fdivI (de_var 2) de_int) de_int)) da_nil)) de_int) sc__law_draw.nd)
    (dss_one (ds_ret (de_bin od_modI (de_callTy cd_int rfl c.n_int (by first | rfl | decide +kernel) (da_cons (de_bin od_fdivI (de_var 2) de_int) da_nil)) (de_var 1))))))))))
theorem ok__law_mixed (c : Fc K mg) {k : Nat} : FnOk P w K mg base (L2.CX P w) (k + 2) c.f__law_mixed c.d__law_mixed ["hand", "things"] (spD K mg 2 F__law_mixed) :=
  fn_ok (k := k + 1) c.F__law_mixed sc__law_mixed rfl fun cdv A outer s H E hr =>
    (dss_cons (ds_par 2 3 rfl (de_callTy cd_list rfl c.n_list (by first | rfl | decide +kernel) (da_cons (de_var 1) da_nil)) (de_lst dav_nil) sc__law_mixed.nd)
    (dss_cons (ds_while (passes_of rfl) (dt_cmp od_gtI (de_callB cd_len rfl c.n_len (by first | rfl | decide +kernel) (da_cons (de_var 2) da_nil)) de_int) (dss_one (ds_expr (de_mut 3 met_append (dav_cons (DE.toV (de_mut 2 met_pop (dav_cons (DE.toV (de_call (ok__law_draw c (k := k)) (fn_al rfl) hr rfl c.g__law_draw c.k__law_draw c.b__law_draw (takes_of rfl rfl rfl rfl) (da_cons (de_var 0) (da_cons (DE.toP (de_callB cd_len rfl c.n_len (by first | rfl | decide +kernel) (da_cons (de_var 2) da_nil))) da_nil)) (hlen := (consA_len (consA_len nilA_len))))) dav_nil))) dav_nil)))))
    (dss_one (ds_ret (de_var 3)))))
theorem ok__law_some (c : Fc K mg) {k : Nat} : FnOk P w K mg base (L2.CX P w) (k + 2) c.f__law_some c.d__law_some ["hand", "items"] (spD K mg 2 F__law_some) :=
  fn_ok (k := k + 1) c.F__law_some sc__law_some rfl fun cdv A outer s H E hr =>
    (dss_one (ds_ret (de_ix ixd_seq (de_var 1) (de_call (ok__law_draw c (k := k)) (fn_al rfl) hr rfl c.g__law_draw c.k__law_draw c.b__law_draw (takes_of rfl rfl rfl rfl) (da_cons (de_var 0) (da_cons (DE.toP (de_callB cd_len rfl c.n_len (by first | rfl | decide +kernel) (da_cons (de_var 1) da_nil))) da_nil)) (hlen := (consA_len (consA_len nilA_len)))))))
theorem al__law_is : ∀ m, ∀ sls i os, F__law_is m sls ≠ .ok (.al i) os
  | 0 => fn_al rfl
  | _ + 1 => fn_al rfl
theorem okr__law_is (c : Fc K mg) {k : Nat} : ∀ m, FnOk P w K mg base (L2.CX P w) (k + 1 + m) c.f__law_is c.d__law_is ["thing", "due"] (spD K mg 2 (F__law_is m))
  | 0 => fn_ok (k := k + 0) c.F__law_is sc__law_is rfl fun cdv A outer s H E hr => dss_bad
  | m + 1 => by
    have ih := okr__law_is c (k := k) m
    have alG := al__law_is m
    exact fn_ok (k := k + 1 + m) c.F__law_is sc__law_is rfl fun cdv A outer s H E hr => (dss_cons (ds_if (DW.pt (dw_or (DE.toT (de_isa (de_var 1) rfl c.n_isinstance rfl c.n_tuple rfl)) (dw_or1 (DE.toT (de_isa (de_var 1) rfl c.n_isinstance rfl c.n_list rfl))))) (dss_cons (ds_if (DW.pt (dw_or (dt_cmp (od_neG hr.units) (de_isa (de_var 1) rfl c.n_isinstance rfl c.n_tuple rfl) (de_isa (de_var 0) rfl c.n_isinstance rfl c.n_tuple rfl)) (dw_or1 (dt_cmp (od_neG hr.units) (de_isa (de_var 1) rfl c.n_isinstance rfl c.n_list rfl) (de_isa (de_var 0) rfl c.n_isinstance rfl c.n_list rfl))))) (dss_one (ds_ret de_bl)) dss_nil)
    (dss_one (ds_ret (de_and (de_cmp (od_eqG hr.units) (de_callB cd_len rfl c.n_len (by first | rfl | decide +kernel) (da_cons (de_var 0) da_nil)) (de_callB cd_len rfl c.n_len (by first | rfl | decide +kernel) (da_cons (de_var 1) da_nil))) (de_one (de_callB (cd_all rfl) rfl c.n_all (by first | rfl | decide +kernel) (da_cons (de_lc rfl sc__law_is.nd (di_zip rfl c.n_zip (dav_cons (DE.toV (de_var 0)) (dav_cons (DE.toV (de_var 1)) dav_nil))) (own := [("one", 2), ("its", 3)]) (blk_ok (by rfl)) (by decide) (fun _ _ _ _ _ => (dgc_tup rfl (dgcs_cons (dgc_name 2 sc__law_is.nd) (dgcs_cons (dgc_name 3 sc__law_is.nd) dgcs_nil)))) (fun _ _ _ _ _ => dts_nil) (fun _ _ _ _ _ => (DE.toV (de_call ih alG (hr.mono (by omega)) rfl c.g__law_is c.k__law_is c.b__law_is takes0 (da_cons (de_var 2) (da_cons (de_var 3) da_nil)) (hlen := (consA_len (consA_len nilA_len))))))) da_nil))))))) dss_nil)
    (dss_cons (ds_if (DW.pt (dw_or (DE.toT (de_isa (de_var 1) rfl c.n_isinstance rfl c.n_dict rfl)) (dw_or1 (DE.toT (de_isa (de_var 0) rfl c.n_isinstance rfl c.n_dict rfl))))) (dss_one (ds_ret (de_and (de_isa (de_var 1) rfl c.n_isinstance rfl c.n_dict rfl) (de_and (de_isa (de_var 0) rfl c.n_isinstance rfl c.n_dict rfl) (de_one (de_cmp (od_eqG hr.units) (de_var 0) (de_var 1))))))) dss_nil)
    (dss_cons (ds_if (DW.pt (dw_or (dt_cmp od_isG (de_var 1) de_non) (dw_or1 (dt_cmp od_isG (de_var 0) de_non)))) (dss_one (ds_ret (de_and (de_cmp od_isG (de_var 1) de_non) (de_one (de_cmp od_isG (de_var 0) de_non))))) dss_nil)
    (dss_cons (ds_if (DW.pt (dw_or (DE.toT (de_isa (de_var 1) rfl c.n_isinstance rfl c.n_bool rfl)) (dw_or1 (DE.toT (de_isa (de_var 0) rfl c.n_isinstance rfl c.n_bool rfl))))) (dss_one (ds_ret (de_and (de_isa (de_var 1) rfl c.n_isinstance rfl c.n_bool rfl) (de_and (de_isa (de_var 0) rfl c.n_isinstance rfl c.n_bool rfl) (de_one (de_cmp (od_eqG hr.units) (de_var 0) (de_var 1))))))) dss_nil)
    (dss_cons (ds_if (DW.pt (dw_or (DE.toT (de_isa (de_var 1) rfl c.n_isinstance rfl c.n_str rfl)) (dw_or1 (DE.toT (de_isa (de_var 0) rfl c.n_isinstance rfl c.n_str rfl))))) (dss_one (ds_ret (de_and (de_isa (de_var 1) rfl c.n_isinstance rfl c.n_str rfl) (de_and (de_isa (de_var 0) rfl c.n_isinstance rfl c.n_str rfl) (de_one (de_cmp (od_eqG hr.units) (de_var 0) (de_var 1))))))) dss_nil)
    (dss_one (ds_ret (de_and (de_isa (de_var 0) rfl c.n_isinstance rfl c.n_int rfl) (de_one (de_cmp (od_eqG hr.units) (de_var 0) (de_var 1)))))))))))
theorem ok__law_is (c : Fc K mg) {k : Nat} : FnOk P w K mg base (L2.CX P w) (k + 17) c.f__law_is c.d__law_is ["thing", "due"] (spD K mg 2 (F__law_is fuelR)) := okr__law_is c (k := k) 16
theorem ok__law_weighing (c : Fc K mg) {k : Nat} : FnOk P w K mg base (L2.CX P w) (k + 3) c.f__law_weighing c.d__law_weighing ["hand", "n"] (spD K mg 2 F__law_weighing) :=
  fn_ok (k := k + 2) c.F__law_weighing sc__law_weighing rfl fun cdv A outer s H E hr =>
    (dss_cons (ds_set 2 (de_call (ok__law_mixed c (k := k)) (fn_al rfl) hr rfl c.g__law_mixed c.k__law_mixed c.b__law_mixed (takes_of rfl rfl rfl rfl) (da_cons (de_var 0) (da_cons (DE.toP (de_listRg1 rfl rfl c.n_list rfl c.n_range (de_var 1))) da_nil)) (hlen := (consA_len (consA_len nilA_len)))) sc__law_weighing.nd)
    (dss_cons (ds_set 3 (de_bin od_add de_int (de_call (ok__law_draw c (k := k + 1)) (fn_al rfl) hr rfl c.g__law_draw c.k__law_draw c.b__law_draw (takes_of rfl rfl rfl rfl) (da_cons (de_var 0) (da_cons (DE.toP (de_bin od_fdivI (de_var 1) de_int)) da_nil)) (hlen := (consA_len (consA_len nilA_len))))) sc__law_weighing.nd)
    (dss_one (ds_ret (de_tup (dav_cons (DE.toV (de_callTy cd_tuple rfl c.n_tuple (by first | rfl | decide +kernel) (da_cons (de_callB (cd_sorted hr.units) rfl c.n_sorted (by first | rfl | decide +kernel) (da_cons (de_slice (de_var 2) do_none (do_some (de_var 3))) da_nil)) da_nil))) (dav_cons (DE.toV (de_callTy cd_tuple rfl c.n_tuple (by first | rfl | decide +kernel) (da_cons (de_callB (cd_sorted hr.units) rfl c.n_sorted (by first | rfl | decide +kernel) (da_cons (de_slice (de_var 2) (do_some (de_var 3)) (do_some (de_bin od_mul de_int (de_var 3)))) da_nil)) da_nil))) dav_nil)))))))
theorem ok__law_cases (c : Fc K mg) {k : Nat} : FnOk P w K mg base (L2.CX P w) (k + 1) c.f__law_cases c.d__law_cases ["n", "kind"] (spD K mg 2 F__law_cases) :=
  fn_ok (k := k + 0) c.F__law_cases sc__law_cases rfl fun cdv A outer s H E hr =>
    (dss_cons (ds_set 2 (de_ife (dt_cmp (od_eqG hr.units) (de_var 1) de_str) (de_lst (dav_cons (DE.toV de_non) dav_nil)) (de_lst dav_nil)) sc__law_cases.nd)
    (dss_cons (ds_for (passes_of rfl) rfl (di_range1 rfl c.n_range (de_var 0)) (dg_name 3 sc__law_cases.nd) (dss_cons (ds_if (dt_cmp (od_neG hr.units) (de_var 1) de_str) (dss_one (ds_expr (de_mut 2 met_append (dav_cons (DE.toV (de_tup (dav_cons (DE.toV (de_var 3)) (dav_cons (DE.toV (de_neg de_int)) dav_nil)))) dav_nil)))) dss_nil)
    (dss_one (ds_expr (de_mut 2 met_append (dav_cons (DE.toV (de_tup (dav_cons (DE.toV (de_var 3)) (dav_cons (DE.toV de_int) dav_nil)))) dav_nil))))))
    (dss_one (ds_ret (de_var 2)))))
theorem ok__law_tells (c : Fc K mg) {k : Nat} : FnOk P w K mg base (L2.CX P w) (k + 1) c.f__law_tells c.d__law_tells ["weighing", "case"] (spD K mg 2 F__law_tells) :=
  fn_ok (k := k + 0) c.F__law_tells sc__law_tells rfl fun cdv A outer s H E hr =>
    (dss_cons (ds_asg (DE.toV (de_var 0)) (dg_tup rfl (dgs_cons (dg_name 2 sc__law_tells.nd) (dgs_cons (dg_name 3 sc__law_tells.nd) dgs_nil))))
    (dss_cons (ds_if (dt_cmp od_isG (de_var 1) de_non) (dss_one (ds_ret de_int)) dss_nil)
    (dss_cons (ds_asg (DE.toV (de_var 1)) (dg_tup rfl (dgs_cons (dg_name 4 sc__law_tells.nd) (dgs_cons (dg_name 5 sc__law_tells.nd) dgs_nil))))
    (dss_one (ds_ret (de_ife (dt_cmp (od_inG hr.units) (de_var 4) (de_var 2)) (de_var 5) (de_ife (dt_cmp (od_inG hr.units) (de_var 4) (de_var 3)) (de_bin od_subI de_int (de_var 5)) de_int)))))))
theorem ok__law_due (c : Fc K mg) {k : Nat} : FnOk P w K mg base (L2.CX P w) (k + 2) c.f__law_due c.d__law_due ["n", "kind", "weighings"] (spD K mg 3 F__law_due) :=
  fn_ok (k := k + 1) c.F__law_due sc__law_due rfl fun cdv A outer s H E hr =>
    (dss_cons (ds_set 3 (de_call (ok__law_cases c (k := k)) (fn_al rfl) hr rfl c.g__law_cases c.k__law_cases c.b__law_cases (takes_of rfl rfl rfl rfl) (da_cons (de_var 0) (da_cons (de_var 1) da_nil)) (hlen := (consA_len (consA_len nilA_len)))) sc__law_due.nd)
    (dss_cons (ds_setLc 4 rfl sc__law_due.nd (sw_true rfl rfl rfl rfl) (di_var 3) (own := [("case", 8)]) (blk_ok (by rfl)) (by decide) (fun _ _ _ _ _ => (dgc_name 8 sc__law_due.nd)) (fun _ _ _ _ _ => dts_nil) (fun _ _ _ _ _ => (DE.toV (de_callTy cd_tuple rfl c.n_tuple (by first | rfl | decide +kernel) (da_cons (de_lc rfl sc__law_due.nd (di_var 2) (own := [("weighing", 9)]) (blk_ok (by rfl)) (by decide) (fun _ _ _ _ _ => (dgc_name 9 sc__law_due.nd)) (fun _ _ _ _ _ => dts_nil) (fun _ _ _ _ _ => (DE.toV (de_call (ok__law_tells c (k := k)) (fn_al rfl) hr rfl c.g__law_tells c.k__law_tells c.b__law_tells takes0 (da_cons (de_var 9) (da_cons (de_var 8) da_nil)) (hlen := (consA_len (consA_len nilA_len))))))) da_nil)))))
    (dss_cons (ds_for (passes_of rfl) rfl (di_enum 4 rfl c.n_enumerate) (dg_tup rfl (dgs_cons (dg_name 5 sc__law_due.nd) (dgs_cons (dg_name 6 sc__law_due.nd) dgs_nil))) (dss_one (ds_for (passes_of rfl) rfl (di_range2 rfl c.n_range (de_bin od_add (de_var 5) de_int) (de_callB cd_len rfl c.n_len (by first | rfl | decide +kernel) (da_cons (de_var 4) da_nil))) (dg_name 7 sc__law_due.nd) (dss_one (ds_if (dt_cmp (od_eqG hr.units) (de_ix ixd_seq (de_var 4) (de_var 7)) (de_var 6)) (dss_one (ds_ret (de_tup (dav_cons (DE.toV de_str) (dav_cons (DE.toV (de_ix ixd_seq (de_var 3) (de_var 5))) (dav_cons (DE.toV (de_ix ixd_seq (de_var 3) (de_var 7))) dav_nil)))))) dss_nil)))))
    (dss_one (ds_ret (de_tup (dav_cons (DE.toV de_str) dav_nil)))))))
theorem ok__law_is_right (c : Fc K mg) {k : Nat} : FnOk P w K mg base (L2.CX P w) (k + 18) c.f__law_is_right c.d__law_is_right ["hand"] (spD K mg 1 F__law_is_right) :=
  fn_ok (k := k + 17) c.F__law_is_right sc__law_is_right rfl fun cdv A outer s H E hr =>
    (dss_cons (ds_parT 1 2 rfl (de_bin od_add de_int (de_call (ok__law_draw c (k := k + 16)) (fn_al rfl) hr rfl c.g__law_draw c.k__law_draw c.b__law_draw (takes_of rfl rfl rfl rfl) (da_cons (de_var 0) (da_cons de_int da_nil)) (hlen := (consA_len (consA_len nilA_len))))) (de_call (ok__law_some c (k := k + 15)) (fn_al rfl) hr rfl c.g__law_some c.k__law_some c.b__law_some (takes_of rfl rfl rfl rfl) (da_cons (de_var 0) (da_cons (DE.toP (de_lst (dav_cons (DE.toV de_str) (dav_cons (DE.toV de_str) (dav_cons (DE.toV de_str) dav_nil))))) da_nil)) (hlen := (consA_len (consA_len nilA_len)))) sc__law_is_right.nd)
    (dss_cons (ds_set 3 (de_callTy cd_tuple rfl c.n_tuple (by first | rfl | decide +kernel) (da_cons (de_lc rfl sc__law_is_right.nd (di_range1 rfl c.n_range (de_call (ok__law_draw c (k := k + 16)) (fn_al rfl) hr rfl c.g__law_draw c.k__law_draw c.b__law_draw (takes_of rfl rfl rfl rfl) (da_cons (de_var 0) (da_cons de_int da_nil)) (hlen := (consA_len (consA_len nilA_len))))) (own := [("turn", 10)]) (blk_ok (by rfl)) (by decide) (fun _ _ _ _ _ => (dgc_name 10 sc__law_is_right.nd)) (fun _ _ _ _ _ => dts_nil) (fun _ _ _ _ _ => (DE.toV (de_call (ok__law_weighing c (k := k + 14)) (fn_al rfl) hr rfl c.g__law_weighing c.k__law_weighing c.b__law_weighing takes0 (da_cons (de_var 0) (da_cons (de_var 1) da_nil)) (hlen := (consA_len (consA_len nilA_len))))))) da_nil)) sc__law_is_right.nd)
    (dss_cons (ds_set 4 (de_call (ok_told_apart c (k := k + 12)) (fn_al rfl) hr rfl c.g_told_apart c.k_told_apart c.b_told_apart (takes_of rfl rfl rfl rfl) (da_cons (de_var 1) (da_cons (de_var 2) (da_cons (de_var 3) da_nil))) (hlen := (consA_len (consA_len (consA_len nilA_len))))) sc__law_is_right.nd)
    (dss_cons (ds_if (dt_not (DE.toT (de_call (ok__law_is c (k := k)) (al__law_is _) hr rfl c.g__law_is c.k__law_is c.b__law_is (takes_of rfl rfl rfl rfl) (da_cons (de_var 4) (da_cons (DE.toP (de_call (ok__law_due c (k := k + 15)) (fn_al rfl) hr rfl c.g__law_due c.k__law_due c.b__law_due (takes_of rfl rfl rfl rfl) (da_cons (de_var 1) (da_cons (de_var 2) (da_cons (de_var 3) da_nil))) (hlen := (consA_len (consA_len (consA_len nilA_len)))))) da_nil)) (hlen := (consA_len (consA_len nilA_len)))))) (dss_one (ds_ret de_bl)) dss_nil)
    (dss_cons (ds_if (dt_cmp (od_eqG hr.units) (de_ix ixd_seq (de_var 4) de_int) de_str) (dss_one (ds_for (passes_of rfl) rfl (di_var 3) (dg_name 9 sc__law_is_right.nd) (dss_one (ds_if (dt_cmp (od_neG hr.units) (de_call (ok__law_tells c (k := k + 16)) (fn_al rfl) hr rfl c.g__law_tells c.k__law_tells c.b__law_tells (takes_of rfl rfl rfl rfl) (da_cons (de_var 9) (da_cons (DE.toP (de_ix ixd_seq (de_var 4) de_int)) da_nil)) (hlen := (consA_len (consA_len nilA_len)))) (de_call (ok__law_tells c (k := k + 16)) (fn_al rfl) hr rfl c.g__law_tells c.k__law_tells c.b__law_tells (takes_of rfl rfl rfl rfl) (da_cons (de_var 9) (da_cons (DE.toP (de_ix ixd_seq (de_var 4) de_int)) da_nil)) (hlen := (consA_len (consA_len nilA_len))))) (dss_one (ds_ret de_bl)) dss_nil)))) dss_nil)
    (dss_cons (ds_if (DW.pt (dw_and (dt_cmp (od_eqG hr.units) (de_ix ixd_seq (de_var 4) de_int) de_str) (dw_and1 (dt_cmp od_ltI (de_callB cd_len rfl c.n_len (by first | rfl | decide +kernel) (da_cons (de_var 3) da_nil)) de_int)))) (dss_one (ds_if (dt_cmp (od_neG hr.units) (de_call (ok_told_apart c (k := k + 12)) (fn_al rfl) hr rfl c.g_told_apart c.k_told_apart c.b_told_apart (takes_of rfl rfl rfl rfl) (da_cons (de_var 1) (da_cons (de_var 2) (da_cons (DE.toP (de_bin od_add (de_var 3) (de_tup (dav_cons (DE.toV (de_call (ok__law_weighing c (k := k + 14)) (fn_al rfl) hr rfl c.g__law_weighing c.k__law_weighing c.b__law_weighing (takes_of rfl rfl rfl rfl) (da_cons (de_var 0) (da_cons (de_var 1) da_nil)) (hlen := (consA_len (consA_len nilA_len))))) dav_nil)))) da_nil))) (hlen := (consA_len (consA_len (consA_len nilA_len))))) (de_tup (dav_cons (DE.toV de_str) dav_nil))) (dss_one (ds_ret de_bl)) dss_nil)) dss_nil)
    (dss_cons (ds_set 5 (de_call (ok__law_mixed c (k := k + 15)) (fn_al rfl) hr rfl c.g__law_mixed c.k__law_mixed c.b__law_mixed (takes_of rfl rfl rfl rfl) (da_cons (de_var 0) (da_cons (DE.toP (de_listRg1 rfl rfl c.n_list rfl c.n_range (de_var 1))) da_nil)) (hlen := (consA_len (consA_len nilA_len)))) sc__law_is_right.nd)
    (dss_cons (ds_set 6 (de_lst dav_nil) sc__law_is_right.nd)
    (dss_cons (ds_for (passes_of rfl) rfl (di_var 3) (dg_tup rfl (dgs_cons (dg_name 7 sc__law_is_right.nd) (dgs_cons (dg_name 8 sc__law_is_right.nd) dgs_nil))) (dss_one (ds_expr (de_mut 6 met_append (dav_cons (DE.toV (de_tup (dav_cons (DE.toV (de_callTy cd_tuple rfl c.n_tuple (by first | rfl | decide +kernel) (da_cons (de_callB (cd_sorted hr.units) rfl c.n_sorted (by first | rfl | decide +kernel) (da_cons (de_lc rfl sc__law_is_right.nd (di_var 7) (own := [("coin", 11)]) (blk_ok (by rfl)) (by decide) (fun _ _ _ _ _ => (dgc_name 11 sc__law_is_right.nd)) (fun _ _ _ _ _ => dts_nil) (fun _ _ _ _ _ => (DE.toV (de_ix ixd_seq (de_var 5) (de_var 11))))) da_nil)) da_nil))) (dav_cons (DE.toV (de_callTy cd_tuple rfl c.n_tuple (by first | rfl | decide +kernel) (da_cons (de_callB (cd_sorted hr.units) rfl c.n_sorted (by first | rfl | decide +kernel) (da_cons (de_lc rfl sc__law_is_right.nd (di_var 8) (own := [("coin", 11)]) (blk_ok (by rfl)) (by decide) (fun _ _ _ _ _ => (dgc_name 11 sc__law_is_right.nd)) (fun _ _ _ _ _ => dts_nil) (fun _ _ _ _ _ => (DE.toV (de_ix ixd_seq (de_var 5) (de_var 11))))) da_nil)) da_nil))) dav_nil)))) dav_nil)))))
    (dss_one (ds_ret (de_cmp (od_eqG hr.units) (de_ix ixd_seq (de_call (ok_told_apart c (k := k + 12)) (fn_al rfl) hr rfl c.g_told_apart c.k_told_apart c.b_told_apart (takes_of rfl rfl rfl rfl) (da_cons (de_var 1) (da_cons (de_var 2) (da_cons (DE.toP (de_callTy cd_tuple rfl c.n_tuple (by first | rfl | decide +kernel) (da_cons (de_var 6) da_nil))) da_nil))) (hlen := (consA_len (consA_len (consA_len nilA_len))))) de_int) (de_ix ixd_seq (de_var 4) de_int)))))))))))))
theorem ok__law_threes (c : Fc K mg) {k : Nat} : FnOk P w K mg base (L2.CX P w) (k + 1) c.f__law_threes c.d__law_threes ["n"] (spD K mg 1 F__law_threes) :=
  fn_ok (k := k + 0) c.F__law_threes sc__law_threes rfl fun cdv A outer s H E hr =>
    (dss_cons (ds_parT 1 2 rfl (de_lst dav_nil) de_int sc__law_threes.nd)
    (dss_cons (ds_while (passes_of rfl) (dt_cmp od_ltI (de_var 2) (de_var 0)) (dss_cons (ds_set 3 (de_callTy cd_tuple rfl c.n_tuple (by first | rfl | decide +kernel) (da_cons (de_lc rfl sc__law_threes.nd (di_range1 rfl c.n_range (de_var 0)) (own := [("coin", 5)]) (blk_ok (by rfl)) (by decide) (fun _ _ _ _ _ => (dgc_name 5 sc__law_threes.nd)) (fun _ _ _ _ _ => (dts_one (dt_cmp (od_eqG hr.units) (de_bin od_modI (de_callTy cd_int rfl c.n_int (by first | rfl | decide +kernel) (da_cons (de_bin od_fdivI (de_var 5) (de_var 2)) da_nil)) de_int) de_int))) (fun _ _ _ _ _ => (DE.toV (de_var 5)))) da_nil)) sc__law_threes.nd)
    (dss_cons (ds_set 4 (de_callTy cd_tuple rfl c.n_tuple (by first | rfl | decide +kernel) (da_cons (de_lc rfl sc__law_threes.nd (di_range1 rfl c.n_range (de_var 0)) (own := [("coin", 5)]) (blk_ok (by rfl)) (by decide) (fun _ _ _ _ _ => (dgc_name 5 sc__law_threes.nd)) (fun _ _ _ _ _ => (dts_one (dt_cmp (od_eqG hr.units) (de_bin od_modI (de_callTy cd_int rfl c.n_int (by first | rfl | decide +kernel) (da_cons (de_bin od_fdivI (de_var 5) (de_var 2)) da_nil)) de_int) de_int))) (fun _ _ _ _ _ => (DE.toV (de_var 5)))) da_nil)) sc__law_threes.nd)
    (dss_cons (ds_expr (de_mut 1 met_append (dav_cons (DE.toV (de_tup (dav_cons (DE.toV (de_var 3)) (dav_cons (DE.toV (de_var 4)) dav_nil)))) dav_nil)))
    (dss_one (ds_set 2 (de_bin od_mul de_int (de_var 2)) sc__law_threes.nd))))))
    (dss_one (ds_ret (de_callTy cd_tuple rfl c.n_tuple (by first | rfl | decide +kernel) (da_cons (de_var 1) da_nil))))))
theorem ok_law (c : Fc K mg) {k : Nat} : FnOk P w K mg base (L2.CX P w) (k + 19) c.f_law c.d_law ["script"] (spD K mg 1 F_law) :=
  fn_ok (k := k + 18) c.F_law sc_law rfl fun cdv A outer s H E hr =>
    (dss_cons (ds_set 1 (de_call (ok__law_hand c (k := k + 17)) (fn_al rfl) hr rfl c.g__law_hand c.k__law_hand c.b__law_hand (takes_of rfl rfl rfl rfl) (da_cons (de_var 0) da_nil) (hlen := (consA_len nilA_len))) sc_law.nd)
    (dss_cons (ds_if (DW.pt (dw_or (dt_cmp (od_neG hr.units) (de_call (ok_told_apart c (k := k + 13)) (fn_al rfl) hr rfl c.g_told_apart c.k_told_apart c.b_told_apart (takes_of rfl rfl rfl rfl) (da_cons de_int (da_cons de_str (da_cons (DE.toP (de_call (ok__law_threes c (k := k + 17)) (fn_al rfl) hr rfl c.g__law_threes c.k__law_threes c.b__law_threes (takes_of rfl rfl rfl rfl) (da_cons de_int da_nil) (hlen := (consA_len nilA_len)))) da_nil))) (hlen := (consA_len (consA_len (consA_len nilA_len))))) (de_tup (dav_cons (DE.toV de_str) dav_nil))) (dw_or1 (dt_cmp (od_neG hr.units) (de_call (ok_told_apart c (k := k + 13)) (fn_al rfl) hr rfl c.g_told_apart c.k_told_apart c.b_told_apart (takes_of rfl rfl rfl rfl) (da_cons de_int (da_cons de_str (da_cons (DE.toP (de_call (ok__law_threes c (k := k + 17)) (fn_al rfl) hr rfl c.g__law_threes c.k__law_threes c.b__law_threes (takes_of rfl rfl rfl rfl) (da_cons de_int da_nil) (hlen := (consA_len nilA_len)))) da_nil))) (hlen := (consA_len (consA_len (consA_len nilA_len))))) (de_tup (dav_cons (DE.toV de_str) dav_nil)))))) (dss_one (ds_ret de_bl)) dss_nil)
    (dss_cons (ds_if (dt_cmp (od_neG hr.units) (de_call (ok_told_apart c (k := k + 13)) (fn_al rfl) hr rfl c.g_told_apart c.k_told_apart c.b_told_apart (takes_of rfl rfl rfl rfl) (da_cons de_int (da_cons de_str (da_cons (de_tup dav_nil) da_nil))) (hlen := (consA_len (consA_len (consA_len nilA_len))))) (de_tup (dav_cons (DE.toV de_str) (dav_cons (DE.toV (de_tup (dav_cons (DE.toV de_int) (dav_cons (DE.toV de_int) dav_nil)))) (dav_cons (DE.toV (de_tup (dav_cons (DE.toV de_int) (dav_cons (DE.toV de_int) dav_nil)))) dav_nil))))) (dss_one (ds_ret de_bl)) dss_nil)
    (dss_cons (ds_if (dt_cmp (od_neG hr.units) (de_call (ok_told_apart c (k := k + 13)) (fn_al rfl) hr rfl c.g_told_apart c.k_told_apart c.b_told_apart (takes_of rfl rfl rfl rfl) (da_cons de_int (da_cons de_str (da_cons (de_tup dav_nil) da_nil))) (hlen := (consA_len (consA_len (consA_len nilA_len))))) (de_tup (dav_cons (DE.toV de_str) (dav_cons (DE.toV de_non) (dav_cons (DE.toV (de_tup (dav_cons (DE.toV de_int) (dav_cons (DE.toV (de_neg de_int)) dav_nil)))) dav_nil))))) (dss_one (ds_ret de_bl)) dss_nil)
    (dss_cons (ds_if (dt_cmp (od_neG hr.units) (de_call (ok_told_apart c (k := k + 13)) (fn_al rfl) hr rfl c.g_told_apart c.k_told_apart c.b_told_apart (takes_of rfl rfl rfl rfl) (da_cons de_int (da_cons de_str (da_cons (de_tup (dav_cons (DE.toV (de_tup (dav_cons (DE.toV (de_tup (dav_cons (DE.toV de_int) dav_nil))) (dav_cons (DE.toV (de_tup (dav_cons (DE.toV de_int) dav_nil))) dav_nil)))) dav_nil)) da_nil))) (hlen := (consA_len (consA_len (consA_len nilA_len))))) (de_tup (dav_cons (DE.toV de_str) (dav_cons (DE.toV (de_tup (dav_cons (DE.toV de_int) (dav_cons (DE.toV (de_neg de_int)) dav_nil)))) (dav_cons (DE.toV (de_tup (dav_cons (DE.toV de_int) (dav_cons (DE.toV de_int) dav_nil)))) dav_nil))))) (dss_one (ds_ret de_bl)) dss_nil)
    (dss_cons (ds_if (dt_cmp (od_neG hr.units) (de_call (ok_told_apart c (k := k + 13)) (fn_al rfl) hr rfl c.g_told_apart c.k_told_apart c.b_told_apart (takes_of rfl rfl rfl rfl) (da_cons de_int (da_cons de_str (da_cons (de_tup dav_nil) da_nil))) (hlen := (consA_len (consA_len (consA_len nilA_len))))) (de_tup (dav_cons (DE.toV de_str) dav_nil))) (dss_one (ds_ret de_bl)) dss_nil)
    (dss_one (ds_ret (de_callB (cd_all rfl) rfl c.n_all (by first | rfl | decide +kernel) (da_cons (de_lc rfl sc_law.nd (di_range1 rfl c.n_range de_int) (own := [("turn", 2)]) (blk_ok (by rfl)) (by decide) (fun _ _ _ _ _ => (dgc_name 2 sc_law.nd)) (fun _ _ _ _ _ => dts_nil) (fun _ _ _ _ _ => (DE.toV (de_call (ok__law_is_right c (k := k)) (fn_al rfl) hr rfl c.g__law_is_right c.k__law_is_right c.b__law_is_right takes0 (da_cons (de_var 1) da_nil) (hlen := (consA_len nilA_len)))))) da_nil))))))))))
end
end K59
set_option Elab.async false
set_option linter.all false
set_option maxRecDepth 100000
set_option maxHeartbeats 0
namespace K59
open PySem PySem.Spec PyProof.Rows L2 Fw

def dd__law_hand : He.DefD := ⟨("_law_hand", none), "_law_hand", "_law_hand", defArgs s__law_hand, defBody s__law_hand, defScope s__law_hand, [], []⟩
def dd_is_integer : He.DefD := ⟨("is_integer", none), "is_integer", "is_integer", defArgs s_is_integer, defBody s_is_integer, defScope s_is_integer, [], []⟩
def dd_is_within : He.DefD := ⟨("is_within", none), "is_within", "is_within", defArgs s_is_within, defBody s_is_within, defScope s_is_within, [], []⟩
def dd_check_coins : He.DefD := ⟨("check_coins", none), "check_coins", "check_coins", defArgs s_check_coins, defBody s_check_coins, defScope s_check_coins, [], []⟩
def dd_check_kind : He.DefD := ⟨("check_kind", none), "check_kind", "check_kind", defArgs s_check_kind, defBody s_check_kind, defScope s_check_kind, [], []⟩
def dd_cases_of : He.DefD := ⟨("cases_of", none), "cases_of", "cases_of", defArgs s_cases_of, defBody s_cases_of, defScope s_cases_of, [], []⟩
def dd_is_tuple : He.DefD := ⟨("is_tuple", none), "is_tuple", "is_tuple", defArgs s_is_tuple, defBody s_is_tuple, defScope s_is_tuple, [], []⟩
def dd_told_by : He.DefD := ⟨("told_by", none), "told_by", "told_by", defArgs s_told_by, defBody s_told_by, defScope s_told_by, [], []⟩
def dd_is_lot : He.DefD := ⟨("is_lot", none), "is_lot", "is_lot", defArgs s_is_lot, defBody s_is_lot, defScope s_is_lot, [], []⟩
def dd_is_weighing : He.DefD := ⟨("is_weighing", none), "is_weighing", "is_weighing", defArgs s_is_weighing, defBody s_is_weighing, defScope s_is_weighing, [], []⟩
def dd_told_apart : He.DefD := ⟨("told_apart", none), "told_apart", "told_apart", defArgs s_told_apart, defBody s_told_apart, defScope s_told_apart, [], []⟩
def dd__law_draw : He.DefD := ⟨("_law_draw", none), "_law_draw", "_law_draw", defArgs s__law_draw, defBody s__law_draw, defScope s__law_draw, [], []⟩
def dd__law_mixed : He.DefD := ⟨("_law_mixed", none), "_law_mixed", "_law_mixed", defArgs s__law_mixed, defBody s__law_mixed, defScope s__law_mixed, [], []⟩
def dd__law_some : He.DefD := ⟨("_law_some", none), "_law_some", "_law_some", defArgs s__law_some, defBody s__law_some, defScope s__law_some, [], []⟩
def dd__law_is : He.DefD := ⟨("_law_is", none), "_law_is", "_law_is", defArgs s__law_is, defBody s__law_is, defScope s__law_is, [], []⟩
def dd__law_weighing : He.DefD := ⟨("_law_weighing", none), "_law_weighing", "_law_weighing", defArgs s__law_weighing, defBody s__law_weighing, defScope s__law_weighing, [], []⟩
def dd__law_cases : He.DefD := ⟨("_law_cases", none), "_law_cases", "_law_cases", defArgs s__law_cases, defBody s__law_cases, defScope s__law_cases, [], []⟩
def dd__law_tells : He.DefD := ⟨("_law_tells", none), "_law_tells", "_law_tells", defArgs s__law_tells, defBody s__law_tells, defScope s__law_tells, [], []⟩
def dd__law_due : He.DefD := ⟨("_law_due", none), "_law_due", "_law_due", defArgs s__law_due, defBody s__law_due, defScope s__law_due, [], []⟩
def dd__law_is_right : He.DefD := ⟨("_law_is_right", none), "_law_is_right", "_law_is_right", defArgs s__law_is_right, defBody s__law_is_right, defScope s__law_is_right, [], []⟩
def dd__law_threes : He.DefD := ⟨("_law_threes", none), "_law_threes", "_law_threes", defArgs s__law_threes, defBody s__law_threes, defScope s__law_threes, [], []⟩
def dd_law : He.DefD := ⟨("law", none), "law", "law", defArgs s_law, defBody s_law, defScope s_law, [], []⟩
def fns : List He.DefD := [dd__law_hand, dd_is_integer, dd_is_within, dd_check_coins, dd_check_kind, dd_cases_of, dd_is_tuple, dd_told_by, dd_is_lot, dd_is_weighing, dd_told_apart, dd__law_draw, dd__law_mixed, dd__law_some, dd__law_is, dd__law_weighing, dd__law_cases, dd__law_tells, dd__law_due, dd__law_is_right, dd__law_threes, dd_law]
def fas : List He.Fa := [.glo "_law_hand", .glo "is_integer", .glo "is_within", .glo "check_coins", .glo "check_kind", .glo "cases_of", .glo "is_tuple", .glo "told_by", .glo "is_lot", .glo "is_weighing", .glo "told_apart", .glo "_law_draw", .glo "_law_mixed", .glo "_law_some", .glo "_law_is", .glo "_law_weighing", .glo "_law_cases", .glo "_law_tells", .glo "_law_due", .glo "_law_is_right", .glo "_law_threes", .glo "law", .free "abs", .free "all", .free "any", .free "bool", .free "dict", .free "enumerate", .free "int", .free "isinstance", .free "len", .free "list", .free "range", .free "sorted", .free "str", .free "tuple", .free "zip", .int "MOST_COINS" 12, .int "MOST_WEIGHINGS" 4]
abbrev Rr : PySem.W.OpenRow := PySem.W.OpenLaw.row PySem.Challenge.rw_fewforces_k59_whole_weighings_that_tell
abbrev hkk : PySem.W.Hook := He.hookD 4 fas fns
def ob (s : PySem.W.SharedT) : He.AlD := He.obsDG 4 fas fns (HandSHeadRun.getT s)
theorem ob_eq (s : PySem.W.SharedT) : ob s = hkk.obs s.abs := He.obsDG_eq (HandSHeadRun.getT_eq s)
def loose0 : List Str := ["is_integer", "is_within", "is_tuple", "is_lot", "ForceError", "NoNumber", "NoKind", "NoWeighings", "MOST_COINS", "MOST_WEIGHINGS", "check_coins", "check_kind", "cases_of", "is_weighing", "told_by", "told_apart", "_law_hand", "_law_draw", "_law_some", "_law_is", "_law_mixed", "_law_cases", "_law_tells", "_law_weighing", "_law_due", "_law_is_right", "_law_threes"]
def looseAll : List Str := loose0
theorem run (w : World) : HandSHeadRun.RunEq Rr (PySem.W.view Rr.prog [31]) hkk ob 3000 looseAll w := by
  intro os
  kernel_rfl
theorem bind__law_hand {K : PySem.W.Frag} {f : Addr} {fd : FuncData} (F : FunD K "_law_hand" "_law_hand" (defArgs s__law_hand) (defBody s__law_hand) (defScope s__law_hand) [] [] f fd) : Binds K fd ["script"] [] :=
  F.bindsN fun _ _ _ _ _ _ us hl => match us, hl with | [_], _ => rfl
theorem bind_is_integer {K : PySem.W.Frag} {f : Addr} {fd : FuncData} (F : FunD K "is_integer" "is_integer" (defArgs s_is_integer) (defBody s_is_integer) (defScope s_is_integer) [] [] f fd) : Binds K fd ["thing"] [] :=
  F.bindsN fun _ _ _ _ _ _ us hl => match us, hl with | [_], _ => rfl
theorem bind_is_within {K : PySem.W.Frag} {f : Addr} {fd : FuncData} (F : FunD K "is_within" "is_within" (defArgs s_is_within) (defBody s_is_within) (defScope s_is_within) [] [] f fd) : Binds K fd ["thing", "low", "high"] [] :=
  F.bindsN fun _ _ _ _ _ _ us hl => match us, hl with | [_, _, _], _ => rfl
theorem bind_check_coins {K : PySem.W.Frag} {f : Addr} {fd : FuncData} (F : FunD K "check_coins" "check_coins" (defArgs s_check_coins) (defBody s_check_coins) (defScope s_check_coins) [] [] f fd) : Binds K fd ["n"] [] :=
  F.bindsN fun _ _ _ _ _ _ us hl => match us, hl with | [_], _ => rfl
theorem bind_check_kind {K : PySem.W.Frag} {f : Addr} {fd : FuncData} (F : FunD K "check_kind" "check_kind" (defArgs s_check_kind) (defBody s_check_kind) (defScope s_check_kind) [] [] f fd) : Binds K fd ["kind"] [] :=
  F.bindsN fun _ _ _ _ _ _ us hl => match us, hl with | [_], _ => rfl
theorem bind_cases_of {K : PySem.W.Frag} {f : Addr} {fd : FuncData} (F : FunD K "cases_of" "cases_of" (defArgs s_cases_of) (defBody s_cases_of) (defScope s_cases_of) [] [] f fd) : Binds K fd ["n", "kind"] [] :=
  F.bindsN fun _ _ _ _ _ _ us hl => match us, hl with | [_, _], _ => rfl
theorem bind_is_tuple {K : PySem.W.Frag} {f : Addr} {fd : FuncData} (F : FunD K "is_tuple" "is_tuple" (defArgs s_is_tuple) (defBody s_is_tuple) (defScope s_is_tuple) [] [] f fd) : Binds K fd ["thing", "least", "most"] [] :=
  F.bindsN fun _ _ _ _ _ _ us hl => match us, hl with | [_, _, _], _ => rfl
theorem bind_told_by {K : PySem.W.Frag} {f : Addr} {fd : FuncData} (F : FunD K "told_by" "told_by" (defArgs s_told_by) (defBody s_told_by) (defScope s_told_by) [] [] f fd) : Binds K fd ["weighing", "case"] [] :=
  F.bindsN fun _ _ _ _ _ _ us hl => match us, hl with | [_, _], _ => rfl
theorem bind_is_lot {K : PySem.W.Frag} {f : Addr} {fd : FuncData} (F : FunD K "is_lot" "is_lot" (defArgs s_is_lot) (defBody s_is_lot) (defScope s_is_lot) [] [] f fd) : Binds K fd ["thing", "many"] [] :=
  F.bindsN fun _ _ _ _ _ _ us hl => match us, hl with | [_, _], _ => rfl
theorem bind_is_weighing {K : PySem.W.Frag} {f : Addr} {fd : FuncData} (F : FunD K "is_weighing" "is_weighing" (defArgs s_is_weighing) (defBody s_is_weighing) (defScope s_is_weighing) [] [] f fd) : Binds K fd ["n", "thing"] [] :=
  F.bindsN fun _ _ _ _ _ _ us hl => match us, hl with | [_, _], _ => rfl
theorem bind_told_apart {K : PySem.W.Frag} {f : Addr} {fd : FuncData} (F : FunD K "told_apart" "told_apart" (defArgs s_told_apart) (defBody s_told_apart) (defScope s_told_apart) [] [] f fd) : Binds K fd ["n", "kind", "weighings"] [] :=
  F.bindsN fun _ _ _ _ _ _ us hl => match us, hl with | [_, _, _], _ => rfl
theorem bind__law_draw {K : PySem.W.Frag} {f : Addr} {fd : FuncData} (F : FunD K "_law_draw" "_law_draw" (defArgs s__law_draw) (defBody s__law_draw) (defScope s__law_draw) [] [] f fd) : Binds K fd ["hand", "limit"] [] :=
  F.bindsN fun _ _ _ _ _ _ us hl => match us, hl with | [_, _], _ => rfl
theorem bind__law_mixed {K : PySem.W.Frag} {f : Addr} {fd : FuncData} (F : FunD K "_law_mixed" "_law_mixed" (defArgs s__law_mixed) (defBody s__law_mixed) (defScope s__law_mixed) [] [] f fd) : Binds K fd ["hand", "things"] [] :=
  F.bindsN fun _ _ _ _ _ _ us hl => match us, hl with | [_, _], _ => rfl
theorem bind__law_some {K : PySem.W.Frag} {f : Addr} {fd : FuncData} (F : FunD K "_law_some" "_law_some" (defArgs s__law_some) (defBody s__law_some) (defScope s__law_some) [] [] f fd) : Binds K fd ["hand", "items"] [] :=
  F.bindsN fun _ _ _ _ _ _ us hl => match us, hl with | [_, _], _ => rfl
theorem bind__law_is {K : PySem.W.Frag} {f : Addr} {fd : FuncData} (F : FunD K "_law_is" "_law_is" (defArgs s__law_is) (defBody s__law_is) (defScope s__law_is) [] [] f fd) : Binds K fd ["thing", "due"] [] :=
  F.bindsN fun _ _ _ _ _ _ us hl => match us, hl with | [_, _], _ => rfl
theorem bind__law_weighing {K : PySem.W.Frag} {f : Addr} {fd : FuncData} (F : FunD K "_law_weighing" "_law_weighing" (defArgs s__law_weighing) (defBody s__law_weighing) (defScope s__law_weighing) [] [] f fd) : Binds K fd ["hand", "n"] [] :=
  F.bindsN fun _ _ _ _ _ _ us hl => match us, hl with | [_, _], _ => rfl
theorem bind__law_cases {K : PySem.W.Frag} {f : Addr} {fd : FuncData} (F : FunD K "_law_cases" "_law_cases" (defArgs s__law_cases) (defBody s__law_cases) (defScope s__law_cases) [] [] f fd) : Binds K fd ["n", "kind"] [] :=
  F.bindsN fun _ _ _ _ _ _ us hl => match us, hl with | [_, _], _ => rfl
theorem bind__law_tells {K : PySem.W.Frag} {f : Addr} {fd : FuncData} (F : FunD K "_law_tells" "_law_tells" (defArgs s__law_tells) (defBody s__law_tells) (defScope s__law_tells) [] [] f fd) : Binds K fd ["weighing", "case"] [] :=
  F.bindsN fun _ _ _ _ _ _ us hl => match us, hl with | [_, _], _ => rfl
theorem bind__law_due {K : PySem.W.Frag} {f : Addr} {fd : FuncData} (F : FunD K "_law_due" "_law_due" (defArgs s__law_due) (defBody s__law_due) (defScope s__law_due) [] [] f fd) : Binds K fd ["n", "kind", "weighings"] [] :=
  F.bindsN fun _ _ _ _ _ _ us hl => match us, hl with | [_, _, _], _ => rfl
theorem bind__law_is_right {K : PySem.W.Frag} {f : Addr} {fd : FuncData} (F : FunD K "_law_is_right" "_law_is_right" (defArgs s__law_is_right) (defBody s__law_is_right) (defScope s__law_is_right) [] [] f fd) : Binds K fd ["hand"] [] :=
  F.bindsN fun _ _ _ _ _ _ us hl => match us, hl with | [_], _ => rfl
theorem bind__law_threes {K : PySem.W.Frag} {f : Addr} {fd : FuncData} (F : FunD K "_law_threes" "_law_threes" (defArgs s__law_threes) (defBody s__law_threes) (defScope s__law_threes) [] [] f fd) : Binds K fd ["n"] [] :=
  F.bindsN fun _ _ _ _ _ _ us hl => match us, hl with | [_], _ => rfl
theorem bind_law {K : PySem.W.Frag} {f : Addr} {fd : FuncData} (F : FunD K "law" "law" (defArgs s_law) (defBody s_law) (defScope s_law) [] [] f fd) : Binds K fd ["script"] [] :=
  F.bindsN fun _ _ _ _ _ _ us hl => match us, hl with | [_], _ => rfl
theorem facts {K : PySem.W.Frag} {h : Heap} {mg : Str → Option Value} (X : K.In h) (G : h.Ns mainGlobals mg) (c : He.SaysD fas fns K) : ∃ fc : Fc K mg, Nonempty (FunD K "law" "law" (defArgs s_law) (defBody s_law) (defScope s_law) [] [] fc.f_law fc.d_law) := by
  obtain ⟨fd__law_hand, F__law_hand⟩ := c.def_ 0 (d := dd__law_hand) rfl
  obtain ⟨fd_is_integer, F_is_integer⟩ := c.def_ 1 (d := dd_is_integer) rfl
  obtain ⟨fd_is_within, F_is_within⟩ := c.def_ 2 (d := dd_is_within) rfl
  obtain ⟨fd_check_coins, F_check_coins⟩ := c.def_ 3 (d := dd_check_coins) rfl
  obtain ⟨fd_check_kind, F_check_kind⟩ := c.def_ 4 (d := dd_check_kind) rfl
  obtain ⟨fd_cases_of, F_cases_of⟩ := c.def_ 5 (d := dd_cases_of) rfl
  obtain ⟨fd_is_tuple, F_is_tuple⟩ := c.def_ 6 (d := dd_is_tuple) rfl
  obtain ⟨fd_told_by, F_told_by⟩ := c.def_ 7 (d := dd_told_by) rfl
  obtain ⟨fd_is_lot, F_is_lot⟩ := c.def_ 8 (d := dd_is_lot) rfl
  obtain ⟨fd_is_weighing, F_is_weighing⟩ := c.def_ 9 (d := dd_is_weighing) rfl
  obtain ⟨fd_told_apart, F_told_apart⟩ := c.def_ 10 (d := dd_told_apart) rfl
  obtain ⟨fd__law_draw, F__law_draw⟩ := c.def_ 11 (d := dd__law_draw) rfl
  obtain ⟨fd__law_mixed, F__law_mixed⟩ := c.def_ 12 (d := dd__law_mixed) rfl
  obtain ⟨fd__law_some, F__law_some⟩ := c.def_ 13 (d := dd__law_some) rfl
  obtain ⟨fd__law_is, F__law_is⟩ := c.def_ 14 (d := dd__law_is) rfl
  obtain ⟨fd__law_weighing, F__law_weighing⟩ := c.def_ 15 (d := dd__law_weighing) rfl
  obtain ⟨fd__law_cases, F__law_cases⟩ := c.def_ 16 (d := dd__law_cases) rfl
  obtain ⟨fd__law_tells, F__law_tells⟩ := c.def_ 17 (d := dd__law_tells) rfl
  obtain ⟨fd__law_due, F__law_due⟩ := c.def_ 18 (d := dd__law_due) rfl
  obtain ⟨fd__law_is_right, F__law_is_right⟩ := c.def_ 19 (d := dd__law_is_right) rfl
  obtain ⟨fd__law_threes, F__law_threes⟩ := c.def_ 20 (d := dd__law_threes) rfl
  obtain ⟨fd_law, F_law⟩ := c.def_ 21 (d := dd_law) rfl
  exact ⟨{
    f__law_hand := _
    d__law_hand := fd__law_hand
    F__law_hand := He5.fun_of F__law_hand
    g__law_hand := He.glo_ok X G (c.fact 0 (f := .glo "_law_hand") rfl)
    k__law_hand := F__law_hand.kp
    b__law_hand := bind__law_hand F__law_hand
    f_is_integer := _
    d_is_integer := fd_is_integer
    F_is_integer := He5.fun_of F_is_integer
    g_is_integer := He.glo_ok X G (c.fact 1 (f := .glo "is_integer") rfl)
    k_is_integer := F_is_integer.kp
    b_is_integer := bind_is_integer F_is_integer
    f_is_within := _
    d_is_within := fd_is_within
    F_is_within := He5.fun_of F_is_within
    g_is_within := He.glo_ok X G (c.fact 2 (f := .glo "is_within") rfl)
    k_is_within := F_is_within.kp
    b_is_within := bind_is_within F_is_within
    f_check_coins := _
    d_check_coins := fd_check_coins
    F_check_coins := He5.fun_of F_check_coins
    g_check_coins := He.glo_ok X G (c.fact 3 (f := .glo "check_coins") rfl)
    k_check_coins := F_check_coins.kp
    b_check_coins := bind_check_coins F_check_coins
    f_check_kind := _
    d_check_kind := fd_check_kind
    F_check_kind := He5.fun_of F_check_kind
    g_check_kind := He.glo_ok X G (c.fact 4 (f := .glo "check_kind") rfl)
    k_check_kind := F_check_kind.kp
    b_check_kind := bind_check_kind F_check_kind
    f_cases_of := _
    d_cases_of := fd_cases_of
    F_cases_of := He5.fun_of F_cases_of
    g_cases_of := He.glo_ok X G (c.fact 5 (f := .glo "cases_of") rfl)
    k_cases_of := F_cases_of.kp
    b_cases_of := bind_cases_of F_cases_of
    f_is_tuple := _
    d_is_tuple := fd_is_tuple
    F_is_tuple := He5.fun_of F_is_tuple
    g_is_tuple := He.glo_ok X G (c.fact 6 (f := .glo "is_tuple") rfl)
    k_is_tuple := F_is_tuple.kp
    b_is_tuple := bind_is_tuple F_is_tuple
    f_told_by := _
    d_told_by := fd_told_by
    F_told_by := He5.fun_of F_told_by
    g_told_by := He.glo_ok X G (c.fact 7 (f := .glo "told_by") rfl)
    k_told_by := F_told_by.kp
    b_told_by := bind_told_by F_told_by
    f_is_lot := _
    d_is_lot := fd_is_lot
    F_is_lot := He5.fun_of F_is_lot
    g_is_lot := He.glo_ok X G (c.fact 8 (f := .glo "is_lot") rfl)
    k_is_lot := F_is_lot.kp
    b_is_lot := bind_is_lot F_is_lot
    f_is_weighing := _
    d_is_weighing := fd_is_weighing
    F_is_weighing := He5.fun_of F_is_weighing
    g_is_weighing := He.glo_ok X G (c.fact 9 (f := .glo "is_weighing") rfl)
    k_is_weighing := F_is_weighing.kp
    b_is_weighing := bind_is_weighing F_is_weighing
    f_told_apart := _
    d_told_apart := fd_told_apart
    F_told_apart := He5.fun_of F_told_apart
    g_told_apart := He.glo_ok X G (c.fact 10 (f := .glo "told_apart") rfl)
    k_told_apart := F_told_apart.kp
    b_told_apart := bind_told_apart F_told_apart
    f__law_draw := _
    d__law_draw := fd__law_draw
    F__law_draw := He5.fun_of F__law_draw
    g__law_draw := He.glo_ok X G (c.fact 11 (f := .glo "_law_draw") rfl)
    k__law_draw := F__law_draw.kp
    b__law_draw := bind__law_draw F__law_draw
    f__law_mixed := _
    d__law_mixed := fd__law_mixed
    F__law_mixed := He5.fun_of F__law_mixed
    g__law_mixed := He.glo_ok X G (c.fact 12 (f := .glo "_law_mixed") rfl)
    k__law_mixed := F__law_mixed.kp
    b__law_mixed := bind__law_mixed F__law_mixed
    f__law_some := _
    d__law_some := fd__law_some
    F__law_some := He5.fun_of F__law_some
    g__law_some := He.glo_ok X G (c.fact 13 (f := .glo "_law_some") rfl)
    k__law_some := F__law_some.kp
    b__law_some := bind__law_some F__law_some
    f__law_is := _
    d__law_is := fd__law_is
    F__law_is := He5.fun_of F__law_is
    g__law_is := He.glo_ok X G (c.fact 14 (f := .glo "_law_is") rfl)
    k__law_is := F__law_is.kp
    b__law_is := bind__law_is F__law_is
    f__law_weighing := _
    d__law_weighing := fd__law_weighing
    F__law_weighing := He5.fun_of F__law_weighing
    g__law_weighing := He.glo_ok X G (c.fact 15 (f := .glo "_law_weighing") rfl)
    k__law_weighing := F__law_weighing.kp
    b__law_weighing := bind__law_weighing F__law_weighing
    f__law_cases := _
    d__law_cases := fd__law_cases
    F__law_cases := He5.fun_of F__law_cases
    g__law_cases := He.glo_ok X G (c.fact 16 (f := .glo "_law_cases") rfl)
    k__law_cases := F__law_cases.kp
    b__law_cases := bind__law_cases F__law_cases
    f__law_tells := _
    d__law_tells := fd__law_tells
    F__law_tells := He5.fun_of F__law_tells
    g__law_tells := He.glo_ok X G (c.fact 17 (f := .glo "_law_tells") rfl)
    k__law_tells := F__law_tells.kp
    b__law_tells := bind__law_tells F__law_tells
    f__law_due := _
    d__law_due := fd__law_due
    F__law_due := He5.fun_of F__law_due
    g__law_due := He.glo_ok X G (c.fact 18 (f := .glo "_law_due") rfl)
    k__law_due := F__law_due.kp
    b__law_due := bind__law_due F__law_due
    f__law_is_right := _
    d__law_is_right := fd__law_is_right
    F__law_is_right := He5.fun_of F__law_is_right
    g__law_is_right := He.glo_ok X G (c.fact 19 (f := .glo "_law_is_right") rfl)
    k__law_is_right := F__law_is_right.kp
    b__law_is_right := bind__law_is_right F__law_is_right
    f__law_threes := _
    d__law_threes := fd__law_threes
    F__law_threes := He5.fun_of F__law_threes
    g__law_threes := He.glo_ok X G (c.fact 20 (f := .glo "_law_threes") rfl)
    k__law_threes := F__law_threes.kp
    b__law_threes := bind__law_threes F__law_threes
    f_law := _
    d_law := fd_law
    F_law := He5.fun_of F_law
    g_law := He.glo_ok X G (c.fact 21 (f := .glo "law") rfl)
    k_law := F_law.kp
    b_law := bind_law F_law
    n_abs := He.free_ok X G (c.fact 22 (f := .free "abs") rfl)
    n_all := He.free_ok X G (c.fact 23 (f := .free "all") rfl)
    n_any := He.free_ok X G (c.fact 24 (f := .free "any") rfl)
    n_bool := He.free_ok X G (c.fact 25 (f := .free "bool") rfl)
    n_dict := He.free_ok X G (c.fact 26 (f := .free "dict") rfl)
    n_enumerate := He.free_ok X G (c.fact 27 (f := .free "enumerate") rfl)
    n_int := He.free_ok X G (c.fact 28 (f := .free "int") rfl)
    n_isinstance := He.free_ok X G (c.fact 29 (f := .free "isinstance") rfl)
    n_len := He.free_ok X G (c.fact 30 (f := .free "len") rfl)
    n_list := He.free_ok X G (c.fact 31 (f := .free "list") rfl)
    n_range := He.free_ok X G (c.fact 32 (f := .free "range") rfl)
    n_sorted := He.free_ok X G (c.fact 33 (f := .free "sorted") rfl)
    n_str := He.free_ok X G (c.fact 34 (f := .free "str") rfl)
    n_tuple := He.free_ok X G (c.fact 35 (f := .free "tuple") rfl)
    n_zip := He.free_ok X G (c.fact 36 (f := .free "zip") rfl)
    i_MOST_COINS := He.int_ok X G (c.fact 37 (f := .int "MOST_COINS" 12) rfl)
    i_MOST_WEIGHINGS := He.int_ok X G (c.fact 38 (f := .int "MOST_WEIGHINGS" 4) rfl) }, ⟨F_law⟩⟩
end K59
set_option linter.all false
set_option maxRecDepth 100000
set_option maxHeartbeats 4000000
namespace K59
open PySem PySem.Spec PyProof.Rows L2 Fw
theorem drw_end (c0 : D) (p h2 h3 h4 lim : Int) (s2 s3 s4 : Sl) (hlim : 0 < lim) (h3a : 0 ≤ h3) (h3b : h3 < 2147483648) (h4a : 0 ≤ h4) (h4b : h4 < 2 ^ 40) (hf : ∀ k d, s2 ≠ .mu k d) : 
  ∃ s2', (seqS (setIx 0 (toV (bin2 addG (bin2 ixG (varM 0) (litM (.int 4))) (litM (.int 1)))) (litM (.int 4)))
  (seqS (setS 2 (bin2 modI (callM intG (consA (bin2 mulG (callM intG (consA (bin2 addG (bin2 ixG (varM 0) (litM (.int 3))) (bin2 mulG (litM (.int 7919)) (bin2 ixG (varM 0) (litM (.int 4))))) nilA)) (litM (.int 48271))) nilA)) (litM (.int 2147483647))))
  (seqS (setS 2 (bin2 modI (callM intG (consA (bin2 mulG (varM 2) (bin2 addG (bin2 fdivI (varM 2) (litM (.int 1009))) (litM (.int 69621)))) nilA)) (litM (.int 2147483647))))
  (seqS (setS 2 (bin2 modI (callM intG (consA (bin2 mulG (varM 2) (bin2 addG (bin2 fdivI (varM 2) (litM (.int 2003))) (litM (.int 40692)))) nilA)) (litM (.int 2147483399))))
  (retS (bin2 modI (callM intG (consA (bin2 fdivI (varM 2) (litM (.int 16))) nilA)) (varM 1))))))) [.mu .ref (.lst [c0, .int p, .int h2, .int h3, .int h4]), .v (.int lim), s2, s3, s4] =
    .ok (.rt (.v (.int (lastPart h3 (h4 + 1) lim)))) [.mu .ref (.lst [c0, .int p, .int h2, .int h3, .int (h4 + 1)]), .v (.int lim), s2', s3, s4] := by
  obtain ⟨x, hx⟩ : ∃ x, x = ((h3 + 7919 * (h4 + 1)) * 48271) % 2147483647 := ⟨_, rfl⟩
  obtain ⟨y, hy⟩ : ∃ y, y = (x * (x / 1009 + 69621)) % 2147483647 := ⟨_, rfl⟩
  obtain ⟨z, hz⟩ : ∃ z, z = (y * (y / 2003 + 40692)) % 2147483399 := ⟨_, rfl⟩
  have e : lastPart h3 (h4 + 1) lim = z / 16 % lim := by rw [hz, hy, hx]; rfl
  have m1 : mulG (.int 7919) (.int (h4 + 1)) = some (.v (.int (7919 * (h4 + 1)))) := mulG_small (by omega) (by omega) (by omega) (by omega)
  have m2 : mulG (.int (h3 + 7919 * (h4 + 1))) (.int 48271) = some (.v (.int ((h3 + 7919 * (h4 + 1)) * 48271))) := mulG_small (by omega) (by omega) (by omega) (by omega)
  have x1 : 0 ≤ x ∧ x < 2147483647 := by omega
  have y1 : 0 ≤ y ∧ y < 2147483647 := by omega
  have m3 : mulG (.int x) (.int (x / 1009 + 69621)) = some (.v (.int (x * (x / 1009 + 69621)))) := mulG_small (by omega) (by omega) (by omega) (by omega)
  have m4 : mulG (.int y) (.int (y / 2003 + 40692)) = some (.v (.int (y * (y / 2003 + 40692)))) := mulG_small (by omega) (by omega) (by omega) (by omega)
  have d1 : modI (.int ((h3 + 7919 * (h4 + 1)) * 48271)) (.int 2147483647) = some (.v (.int x)) := by rw [modI_pos (by omega), hx]
  have d2 : modI (.int (x * (x / 1009 + 69621))) (.int 2147483647) = some (.v (.int y)) := by rw [modI_pos (by omega), hy]
  have d3 : modI (.int (y * (y / 2003 + 40692))) (.int 2147483399) = some (.v (.int z)) := by rw [modI_pos (by omega), hz]
  have d4 : modI (.int (z / 16)) (.int lim) = some (.v (.int (z / 16 % lim))) := modI_pos hlim
  have f1 : fdivI (.int x) (.int 1009) = some (.v (.int (x / 1009))) := fdivI_pos (by omega) (by decide)
  have f2 : fdivI (.int y) (.int 2003) = some (.v (.int (y / 2003))) := fdivI_pos (by omega) (by decide)
  have f3 : fdivI (.int z) (.int 16) = some (.v (.int (z / 16))) := fdivI_pos (by omega) (by decide)
  have hfree : (match s2 with | .mu .ref _ => false | .mu .lck _ => false | _ => true) = true := by
    cases s2 with
    | mu k d => exact absurd rfl (hf k d)
    | _ => rfl
  refine ⟨.v (.int z), ?_⟩
  rw [e]
  cases s2 with
  | mu k d => exact absurd rfl (hf k d)
  | _ => simp only [fnD, M.bnd, seqS, nopS, badS, bkS, ctS, ifS, ifM, dropS, retS, retR, retN, setS, setR, free?, varM, litM, liftO, peek2, bin2, un1, asB, toB, Fw.andM, Fw.orM, Fw.notM, andV, orV, notV, nilA, consA, nilV, consV, tupM, lstM, peek, peekL, callM, toV, thaw, toP, toPr, callF, argSls, argSl, als, nodup?, putBack, stepBack, isaM, tyOf, chainM, partM, noPartM, sliceM, setIx, mutM, mutK, shOk, par2, par3, plainR, asgS, tgM, tupG, consG, nilG, setD, outs, List.replicate, List.append_nil, List.nil_append, List.cons_append, List.getElem?_cons_zero, List.getElem?_cons_succ, List.set_cons_zero, List.set_cons_succ, if_true, Bool.false_eq_true, if_false, reduceIte, List.contains_nil, List.contains_cons, Bool.not_false, Bool.and_true, Bool.true_and, ite_self, cmpI, addG, subI, intG, lenG, absG, kt_NoneType_int, kt_NoneType_bool, kt_NoneType_str, kt_NoneType_tuple, kt_NoneType_list, kt_NoneType_dict, kt_bool_int, kt_bool_bool, kt_bool_str, kt_bool_tuple, kt_bool_list, kt_bool_dict, kt_int_int, kt_int_bool, kt_int_str, kt_int_tuple, kt_int_list, kt_int_dict, kt_str_int, kt_str_bool, kt_str_str, kt_str_tuple, kt_str_list, kt_str_dict, kt_tuple_int, kt_tuple_bool, kt_tuple_str, kt_tuple_tuple, kt_tuple_list, kt_tuple_dict, kt_list_int, kt_list_bool, kt_list_str, kt_list_tuple, kt_list_list, kt_list_dict, ix5_3, ix5_4, ixN5_4, m1, m2, m3, m4, d1, d2, d3, d4, f1, f2, f3, List.length_cons, List.length_nil, Nat.reduceAdd]
theorem seq_nx {f g : S} {en en1 : En} (h : f en = .ok .nx en1) : seqS f g en = g en1 := by unfold seqS; rw [bnd_ok h]
theorem seq_rt {f g : S} {en en1 : En} {r : R} (h : f en = .ok (.rt r) en1) : seqS f g en = .ok (.rt r) en1 := by unfold seqS; rw [bnd_ok h]
theorem drw_first (cells : List Int) (p h2 h3 h4 lim : Int) (hc : ∀ c ∈ cells, (0 : Int) ≤ c) (hp : 0 ≤ p) (h2a : 0 ≤ h2) (h3a : 0 ≤ h3) (h3b : h3 < 2147483648) :
  ∃ p' h2' h3' s3, (ifS (Fw.andM (toB (bin2 eqG (bin2 ixG (varM 0) (litM (.int 2))) (litM (.int 0)))) (toB (bin2 (cmpI fun i j => decide (i < j)) (bin2 ixG (varM 0) (litM (.int 1))) (callM lenG (consA (bin2 ixG (varM 0) (litM (.int 0))) nilA))))) (seqS (setS 3 (bin2 ixG (bin2 ixG (varM 0) (litM (.int 0))) (bin2 ixG (varM 0) (litM (.int 1)))))
  (seqS (setIx 0 (toV (bin2 addG (bin2 ixG (varM 0) (litM (.int 1))) (litM (.int 1)))) (litM (.int 1)))
  (seqS (setIx 0 (toV (bin2 modI (callM intG (consA (bin2 addG (bin2 addG (bin2 mulG (bin2 ixG (varM 0) (litM (.int 3))) (litM (.int 69621))) (varM 3)) (litM (.int 331))) nilA)) (litM (.int 2147483629)))) (litM (.int 3)))
  (ifS (toB (bin2 (cmpI fun i j => decide (i ≥ j)) (varM 3) (bin2 powI (litM (.int 10)) (litM (.int 18))))) (setIx 0 (toV (varM 3)) (litM (.int 2))) nopS)))) nopS) [.mu .ref (hand5 cells p h2 h3 h4), .v (.int lim), .no, .no, .no] =
    .ok .nx [.mu .ref (hand5 cells p' h2' h3' h4), .v (.int lim), .no, s3, .no] ∧ (∀ k d, s3 ≠ .mu k d) ∧ 0 ≤ p' ∧ 0 ≤ h2' ∧ 0 ≤ h3' ∧ h3' < 2147483648 := by
  by_cases c1 : h2 = 0
  · by_cases c2 : p < cells.length
    · obtain ⟨n, rfl⟩ : ∃ n : Nat, p = n := ⟨p.toNat, by omega⟩
      have hn : n < cells.length := by omega
      have gc : (cells.map D.int)[n]? = some (.int cells[n]) := by rw [List.getElem?_map, List.getElem?_eq_getElem hn]; rfl
      have ic := ixG_lst gc
      have c0 : 0 ≤ cells[n] := hc _ (List.getElem_mem hn)
      have m1 : mulG (.int h3) (.int 69621) = some (.v (.int (h3 * 69621))) := mulG_small (by omega) (by omega) (by omega) (by omega)
      have d1 : modI (.int (h3 * 69621 + cells[n] + 331)) (.int 2147483629) = some (.v (.int ((h3 * 69621 + cells[n] + 331) % 2147483629))) := modI_pos (by omega)
      have t1 : (h2 == 0) = true := by rw [beq_iff_eq]; exact c1
      have t2 : decide ((n : Int) < (cells.length : Int)) = true := decide_eq_true (by omega)
      by_cases c3 : cells[n] ≥ 1000000000000000000
      · have t3 : decide (cells[n] ≥ (1000000000000000000 : Int)) = true := decide_eq_true c3
        refine ⟨n + 1, cells[n], (h3 * 69621 + cells[n] + 331) % 2147483629, .v (.int cells[n]), ?_, fun k d => by simp, by omega, by omega, by omega, by omega⟩
        simp only [fnD, M.bnd, seqS, nopS, badS, bkS, ctS, ifS, ifM, dropS, retS, retR, retN, setS, setR, free?, varM, litM, liftO, peek2, bin2, un1, asB, toB, Fw.andM, Fw.orM, Fw.notM, andV, orV, notV, nilA, consA, nilV, consV, tupM, lstM, peek, peekL, callM, toV, thaw, toP, toPr, callF, argSls, argSl, als, nodup?, putBack, stepBack, isaM, tyOf, chainM, partM, noPartM, sliceM, setIx, mutM, mutK, shOk, par2, par3, plainR, asgS, tgM, tupG, consG, nilG, setD, outs, List.replicate, List.append_nil, List.nil_append, List.cons_append, List.getElem?_cons_zero, List.getElem?_cons_succ, List.set_cons_zero, List.set_cons_succ, if_true, Bool.false_eq_true, if_false, reduceIte, List.contains_nil, List.contains_cons, Bool.not_false, Bool.and_true, Bool.true_and, ite_self, cmpI, addG, subI, intG, lenG, absG, kt_NoneType_int, kt_NoneType_bool, kt_NoneType_str, kt_NoneType_tuple, kt_NoneType_list, kt_NoneType_dict, kt_bool_int, kt_bool_bool, kt_bool_str, kt_bool_tuple, kt_bool_list, kt_bool_dict, kt_int_int, kt_int_bool, kt_int_str, kt_int_tuple, kt_int_list, kt_int_dict, kt_str_int, kt_str_bool, kt_str_str, kt_str_tuple, kt_str_list, kt_str_dict, kt_tuple_int, kt_tuple_bool, kt_tuple_str, kt_tuple_tuple, kt_tuple_list, kt_tuple_dict, kt_list_int, kt_list_bool, kt_list_str, kt_list_tuple, kt_list_list, kt_list_dict, hand5, ix5_0, ix5_1, ix5_2, ix5_3, ixN5_1, ixN5_2, ixN5_3, eqG_int, t1, t2, ic, m1, d1, powI_18, t3, List.length_cons, List.length_nil, Nat.reduceAdd, List.length_map]
      · have t3 : decide (cells[n] ≥ (1000000000000000000 : Int)) = false := decide_eq_false c3
        refine ⟨n + 1, h2, (h3 * 69621 + cells[n] + 331) % 2147483629, .v (.int cells[n]), ?_, fun k d => by simp, by omega, by omega, by omega, by omega⟩
        simp only [fnD, M.bnd, seqS, nopS, badS, bkS, ctS, ifS, ifM, dropS, retS, retR, retN, setS, setR, free?, varM, litM, liftO, peek2, bin2, un1, asB, toB, Fw.andM, Fw.orM, Fw.notM, andV, orV, notV, nilA, consA, nilV, consV, tupM, lstM, peek, peekL, callM, toV, thaw, toP, toPr, callF, argSls, argSl, als, nodup?, putBack, stepBack, isaM, tyOf, chainM, partM, noPartM, sliceM, setIx, mutM, mutK, shOk, par2, par3, plainR, asgS, tgM, tupG, consG, nilG, setD, outs, List.replicate, List.append_nil, List.nil_append, List.cons_append, List.getElem?_cons_zero, List.getElem?_cons_succ, List.set_cons_zero, List.set_cons_succ, if_true, Bool.false_eq_true, if_false, reduceIte, List.contains_nil, List.contains_cons, Bool.not_false, Bool.and_true, Bool.true_and, ite_self, cmpI, addG, subI, intG, lenG, absG, kt_NoneType_int, kt_NoneType_bool, kt_NoneType_str, kt_NoneType_tuple, kt_NoneType_list, kt_NoneType_dict, kt_bool_int, kt_bool_bool, kt_bool_str, kt_bool_tuple, kt_bool_list, kt_bool_dict, kt_int_int, kt_int_bool, kt_int_str, kt_int_tuple, kt_int_list, kt_int_dict, kt_str_int, kt_str_bool, kt_str_str, kt_str_tuple, kt_str_list, kt_str_dict, kt_tuple_int, kt_tuple_bool, kt_tuple_str, kt_tuple_tuple, kt_tuple_list, kt_tuple_dict, kt_list_int, kt_list_bool, kt_list_str, kt_list_tuple, kt_list_list, kt_list_dict, hand5, ix5_0, ix5_1, ix5_2, ix5_3, ixN5_1, ixN5_2, ixN5_3, eqG_int, t1, t2, ic, m1, d1, powI_18, t3, List.length_cons, List.length_nil, Nat.reduceAdd, List.length_map]
    · have t1 : (h2 == 0) = true := by rw [beq_iff_eq]; exact c1
      have t2 : decide (p < (cells.length : Int)) = false := decide_eq_false (by omega)
      refine ⟨p, h2, h3, .no, ?_, fun k d => by simp, hp, h2a, h3a, h3b⟩
      simp only [fnD, M.bnd, seqS, nopS, badS, bkS, ctS, ifS, ifM, dropS, retS, retR, retN, setS, setR, free?, varM, litM, liftO, peek2, bin2, un1, asB, toB, Fw.andM, Fw.orM, Fw.notM, andV, orV, notV, nilA, consA, nilV, consV, tupM, lstM, peek, peekL, callM, toV, thaw, toP, toPr, callF, argSls, argSl, als, nodup?, putBack, stepBack, isaM, tyOf, chainM, partM, noPartM, sliceM, setIx, mutM, mutK, shOk, par2, par3, plainR, asgS, tgM, tupG, consG, nilG, setD, outs, List.replicate, List.append_nil, List.nil_append, List.cons_append, List.getElem?_cons_zero, List.getElem?_cons_succ, List.set_cons_zero, List.set_cons_succ, if_true, Bool.false_eq_true, if_false, reduceIte, List.contains_nil, List.contains_cons, Bool.not_false, Bool.and_true, Bool.true_and, ite_self, cmpI, addG, subI, intG, lenG, absG, kt_NoneType_int, kt_NoneType_bool, kt_NoneType_str, kt_NoneType_tuple, kt_NoneType_list, kt_NoneType_dict, kt_bool_int, kt_bool_bool, kt_bool_str, kt_bool_tuple, kt_bool_list, kt_bool_dict, kt_int_int, kt_int_bool, kt_int_str, kt_int_tuple, kt_int_list, kt_int_dict, kt_str_int, kt_str_bool, kt_str_str, kt_str_tuple, kt_str_list, kt_str_dict, kt_tuple_int, kt_tuple_bool, kt_tuple_str, kt_tuple_tuple, kt_tuple_list, kt_tuple_dict, kt_list_int, kt_list_bool, kt_list_str, kt_list_tuple, kt_list_list, kt_list_dict, hand5, ix5_0, ix5_1, ix5_2, eqG_int, t1, t2, List.length_map]
  · have t1 : (h2 == 0) = false := by rw [beq_eq_false_iff_ne]; exact c1
    refine ⟨p, h2, h3, .no, ?_, fun k d => by simp, hp, h2a, h3a, h3b⟩
    simp only [fnD, M.bnd, seqS, nopS, badS, bkS, ctS, ifS, ifM, dropS, retS, retR, retN, setS, setR, free?, varM, litM, liftO, peek2, bin2, un1, asB, toB, Fw.andM, Fw.orM, Fw.notM, andV, orV, notV, nilA, consA, nilV, consV, tupM, lstM, peek, peekL, callM, toV, thaw, toP, toPr, callF, argSls, argSl, als, nodup?, putBack, stepBack, isaM, tyOf, chainM, partM, noPartM, sliceM, setIx, mutM, mutK, shOk, par2, par3, plainR, asgS, tgM, tupG, consG, nilG, setD, outs, List.replicate, List.append_nil, List.nil_append, List.cons_append, List.getElem?_cons_zero, List.getElem?_cons_succ, List.set_cons_zero, List.set_cons_succ, if_true, Bool.false_eq_true, if_false, reduceIte, List.contains_nil, List.contains_cons, Bool.not_false, Bool.and_true, Bool.true_and, ite_self, cmpI, addG, subI, intG, lenG, absG, kt_NoneType_int, kt_NoneType_bool, kt_NoneType_str, kt_NoneType_tuple, kt_NoneType_list, kt_NoneType_dict, kt_bool_int, kt_bool_bool, kt_bool_str, kt_bool_tuple, kt_bool_list, kt_bool_dict, kt_int_int, kt_int_bool, kt_int_str, kt_int_tuple, kt_int_list, kt_int_dict, kt_str_int, kt_str_bool, kt_str_str, kt_str_tuple, kt_str_list, kt_str_dict, kt_tuple_int, kt_tuple_bool, kt_tuple_str, kt_tuple_tuple, kt_tuple_list, kt_tuple_dict, kt_list_int, kt_list_bool, kt_list_str, kt_list_tuple, kt_list_list, kt_list_dict, hand5, ix5_0, ix5_1, ix5_2, eqG_int, t1]
theorem draw_ok {m : Nat} {hd : D} {lim : Int} (h : HOk m hd) (hm : m < 2 ^ 30) (hl : 0 < lim) (hb : bitsOf lim < 9000) : ∃ r hd', F__law_draw [.mu .ref hd, .v (.int lim)] = .ok (.v (.int r)) [.mu .ref hd', .v (.int lim)] ∧ 0 ≤ r ∧ r < lim ∧ HOk (m + 1) hd' := by
  obtain ⟨cells, p, h2, h3, h4, rfl, a1, a2, a3, a4, a5, a6, a7⟩ := h.ex
  obtain ⟨p', h2', h3', s3, e1, hs3, b1, b2, b3, b4⟩ := drw_first cells p h2 h3 h4 lim a1 a2 a3 a4 a5
  unfold F__law_draw fnD b__law_draw
  simp only [List.replicate, List.cons_append, List.nil_append]
  rw [seq_nx e1]
  by_cases c1 : h2' > 0
  · have t1 : decide (h2' > (0 : Int)) = true := decide_eq_true c1
    refine ⟨h2' % lim, hand5 cells p' (h2' / lim) h3' h4, ?_, Int.emod_nonneg _ (by omega), Int.emod_lt_of_pos _ hl, ⟨cells, p', h2' / lim, h3', h4, rfl, a1, b1, Int.ediv_nonneg b2 (by omega), b3, b4, a6, by omega⟩⟩
    simp only [fnD, M.bnd, seqS, nopS, badS, bkS, ctS, ifS, ifM, dropS, retS, retR, retN, setS, setR, free?, varM, litM, liftO, peek2, bin2, un1, asB, toB, Fw.andM, Fw.orM, Fw.notM, andV, orV, notV, nilA, consA, nilV, consV, tupM, lstM, peek, peekL, callM, toV, thaw, toP, toPr, callF, argSls, argSl, als, nodup?, putBack, stepBack, isaM, tyOf, chainM, partM, noPartM, sliceM, setIx, mutM, mutK, shOk, par2, par3, plainR, asgS, tgM, tupG, consG, nilG, setD, outs, List.replicate, List.append_nil, List.nil_append, List.cons_append, List.getElem?_cons_zero, List.getElem?_cons_succ, List.set_cons_zero, List.set_cons_succ, if_true, Bool.false_eq_true, if_false, reduceIte, List.contains_nil, List.contains_cons, Bool.not_false, Bool.and_true, Bool.true_and, ite_self, cmpI, addG, subI, intG, lenG, absG, kt_NoneType_int, kt_NoneType_bool, kt_NoneType_str, kt_NoneType_tuple, kt_NoneType_list, kt_NoneType_dict, kt_bool_int, kt_bool_bool, kt_bool_str, kt_bool_tuple, kt_bool_list, kt_bool_dict, kt_int_int, kt_int_bool, kt_int_str, kt_int_tuple, kt_int_list, kt_int_dict, kt_str_int, kt_str_bool, kt_str_str, kt_str_tuple, kt_str_list, kt_str_dict, kt_tuple_int, kt_tuple_bool, kt_tuple_str, kt_tuple_tuple, kt_tuple_list, kt_tuple_dict, kt_list_int, kt_list_bool, kt_list_str, kt_list_tuple, kt_list_list, kt_list_dict, hand5, ix5_2, ixN5_2, t1, modI_pos hl, fdivI_pos hl hb, List.length_cons, List.length_nil, Nat.reduceAdd]
  · have t1 : decide (h2' > (0 : Int)) = false := decide_eq_false c1
    obtain ⟨s2', e2⟩ := drw_end (.lst (cells.map D.int)) p' h2' h3' h4 lim .no s3 .no hl b3 b4 a6 (by omega) (fun k d => by simp)
    have e3 : (ifS (toB (bin2 (cmpI fun i j => decide (i > j)) (bin2 ixG (varM 0) (litM (.int 2))) (litM (.int 0)))) (seqS (setS 4 (bin2 modI (callM intG (consA (bin2 ixG (varM 0) (litM (.int 2))) nilA)) (varM 1)))
  (seqS (setIx 0 (toV (bin2 fdivI (bin2 ixG (varM 0) (litM (.int 2))) (varM 1))) (litM (.int 2)))
  (retS (varM 4)))) nopS) [.mu .ref (hand5 cells p' h2' h3' h4), .v (.int lim), .no, s3, .no] = .ok .nx [.mu .ref (hand5 cells p' h2' h3' h4), .v (.int lim), .no, s3, .no] := by
      simp only [fnD, M.bnd, seqS, nopS, badS, bkS, ctS, ifS, ifM, dropS, retS, retR, retN, setS, setR, free?, varM, litM, liftO, peek2, bin2, un1, asB, toB, Fw.andM, Fw.orM, Fw.notM, andV, orV, notV, nilA, consA, nilV, consV, tupM, lstM, peek, peekL, callM, toV, thaw, toP, toPr, callF, argSls, argSl, als, nodup?, putBack, stepBack, isaM, tyOf, chainM, partM, noPartM, sliceM, setIx, mutM, mutK, shOk, par2, par3, plainR, asgS, tgM, tupG, consG, nilG, setD, outs, List.replicate, List.append_nil, List.nil_append, List.cons_append, List.getElem?_cons_zero, List.getElem?_cons_succ, List.set_cons_zero, List.set_cons_succ, if_true, Bool.false_eq_true, if_false, reduceIte, List.contains_nil, List.contains_cons, Bool.not_false, Bool.and_true, Bool.true_and, ite_self, cmpI, addG, subI, intG, lenG, absG, kt_NoneType_int, kt_NoneType_bool, kt_NoneType_str, kt_NoneType_tuple, kt_NoneType_list, kt_NoneType_dict, kt_bool_int, kt_bool_bool, kt_bool_str, kt_bool_tuple, kt_bool_list, kt_bool_dict, kt_int_int, kt_int_bool, kt_int_str, kt_int_tuple, kt_int_list, kt_int_dict, kt_str_int, kt_str_bool, kt_str_str, kt_str_tuple, kt_str_list, kt_str_dict, kt_tuple_int, kt_tuple_bool, kt_tuple_str, kt_tuple_tuple, kt_tuple_list, kt_tuple_dict, kt_list_int, kt_list_bool, kt_list_str, kt_list_tuple, kt_list_list, kt_list_dict, hand5, ix5_2, t1]
    rw [seq_nx e3]
    refine ⟨lastPart h3' (h4 + 1) lim, hand5 cells p' h2' h3' (h4 + 1), ?_, Int.emod_nonneg _ (by omega), Int.emod_lt_of_pos _ hl, ⟨cells, p', h2', h3', h4 + 1, rfl, a1, b1, b2, b3, b4, by omega, by omega⟩⟩
    unfold hand5
    rw [e2]
    rfl
end K59
set_option linter.all false
set_option maxRecDepth 100000
set_option maxHeartbeats 4000000
namespace K59
open PySem PySem.Spec PyProof.Rows L2 Fw
theorem small_len {n : Nat} (h : n < 2 ^ 60) : bitsOf (n : Int) < 9000 := by
  have := bits_lt (i := (n : Int)) (n := 60) (by omega) (by omega)
  omega
theorem some_ok {m : Nat} {hd : D} {ds : List D} {it : Sl} (hit : it = .v (.lst ds) ∨ it = .v (.tup ds) ∨ it = .mu .ref (.lst ds)) (h : HOk m hd) (hm : m < 2 ^ 30) (hne : 0 < ds.length) (hb : ds.length < 2 ^ 60) :
    ∃ d hd', d ∈ ds ∧ F__law_some [.mu .ref hd, it] = .ok (.v d) [.mu .ref hd', it] ∧ HOk (m + 1) hd' := by
  obtain ⟨r, hd', e, r1, r2, k⟩ := draw_ok (lim := (ds.length : Int)) h hm (by omega) (small_len hb)
  obtain ⟨n, rfl⟩ : ∃ n : Nat, r = n := ⟨r.toNat, by omega⟩
  have hn : n < ds.length := by omega
  have g := List.getElem?_eq_getElem hn
  refine ⟨ds[n], hd', List.getElem_mem hn, ?_, k⟩
  unfold F__law_some fnD b__law_some
  rcases hit with rfl | rfl | rfl
  · simp only [x_free0, x_freeS, free1_v, free1_no, free1_own, peek, peekL, thaw, argSls, argSl, als, nodup?, putBack, stepBack, tyOf, mutK, shOk, plainR, outs, x_seqS, List.replicate, List.append_nil, List.nil_append, List.cons_append, List.getElem?_cons_zero, List.getElem?_cons_succ, List.set_cons_zero, List.set_cons_succ, if_true, Bool.false_eq_true, if_false, reduceIte, List.contains_nil, List.contains_cons, Bool.not_false, Bool.not_true, Bool.and_true, Bool.true_and, Bool.and_false, Bool.or_false, Bool.false_or, Bool.false_and, Bool.true_or, Bool.or_true, addG_int, subI_int, eqG_int, neG_int, eqG_bl, neG_bl, cmpI_int, intG, lenG, absG, List.length_cons, sizeLine_eq, Nat.reduceLeDiff, Nat.reduceLT, Nat.zero_le, Nat.zero_add, List.length_nil, Nat.reduceAdd, beq_self_eq_true, Nat.reduceBEq, reduceCtorEq, Nat.reduceEqDiff, bd_ok, bd_bad, bd_err, x_nopS, x_badS, x_bkS, x_ctS, x_ifM, x_ifS, x_dropS, x_retS, x_retR_v, x_retR_fr, x_retR_al, x_retN, x_setS, x_setR_v, x_setR_fr, x_setR_al, x_varM, x_litM, x_liftO_v, x_liftO_fr, x_liftO_n, x_bin2, x_peek2, x_un1, x_asB, x_toB, x_andM, x_orM, x_notM, x_andV, x_orV, x_notV, x_nilA, x_consA, x_nilV, x_consV, x_tupM, x_lstM, x_callM, x_toV, x_toP, x_toPr_v, x_toPr_fr, x_toPr_al, callR_ok, x_callF, x_isaM, x_chainM, x_noPartM, x_partM, x_sliceM, x_setIx, x_mutM, x_mutK, x_par2, x_par3, x_asgS, x_setD, x_tupG, x_consG, x_nilG, x_seqN, x_enumN, x_seqV, x_enumI, x_zipI, x_rng1, x_rng2, x_sortSetM, x_rgM, kt_NoneType_int, kt_NoneType_bool, kt_NoneType_str, kt_NoneType_tuple, kt_NoneType_list, kt_NoneType_dict, kt_bool_int, kt_bool_bool, kt_bool_str, kt_bool_tuple, kt_bool_list, kt_bool_dict, kt_int_int, kt_int_bool, kt_int_str, kt_int_tuple, kt_int_list, kt_int_dict, kt_str_int, kt_str_bool, kt_str_str, kt_str_tuple, kt_str_list, kt_str_dict, kt_tuple_int, kt_tuple_bool, kt_tuple_str, kt_tuple_tuple, kt_tuple_list, kt_tuple_dict, kt_list_int, kt_list_bool, kt_list_str, kt_list_tuple, kt_list_list, kt_list_dict, Int.reduceLE, Int.reduceSub, Int.reduceToNat, Int.reduceNeg, and_self, true_and, and_true, e, ixG_lst g]
  · simp only [x_free0, x_freeS, free1_v, free1_no, free1_own, peek, peekL, thaw, argSls, argSl, als, nodup?, putBack, stepBack, tyOf, mutK, shOk, plainR, outs, x_seqS, List.replicate, List.append_nil, List.nil_append, List.cons_append, List.getElem?_cons_zero, List.getElem?_cons_succ, List.set_cons_zero, List.set_cons_succ, if_true, Bool.false_eq_true, if_false, reduceIte, List.contains_nil, List.contains_cons, Bool.not_false, Bool.not_true, Bool.and_true, Bool.true_and, Bool.and_false, Bool.or_false, Bool.false_or, Bool.false_and, Bool.true_or, Bool.or_true, addG_int, subI_int, eqG_int, neG_int, eqG_bl, neG_bl, cmpI_int, intG, lenG, absG, List.length_cons, sizeLine_eq, Nat.reduceLeDiff, Nat.reduceLT, Nat.zero_le, Nat.zero_add, List.length_nil, Nat.reduceAdd, beq_self_eq_true, Nat.reduceBEq, reduceCtorEq, Nat.reduceEqDiff, bd_ok, bd_bad, bd_err, x_nopS, x_badS, x_bkS, x_ctS, x_ifM, x_ifS, x_dropS, x_retS, x_retR_v, x_retR_fr, x_retR_al, x_retN, x_setS, x_setR_v, x_setR_fr, x_setR_al, x_varM, x_litM, x_liftO_v, x_liftO_fr, x_liftO_n, x_bin2, x_peek2, x_un1, x_asB, x_toB, x_andM, x_orM, x_notM, x_andV, x_orV, x_notV, x_nilA, x_consA, x_nilV, x_consV, x_tupM, x_lstM, x_callM, x_toV, x_toP, x_toPr_v, x_toPr_fr, x_toPr_al, callR_ok, x_callF, x_isaM, x_chainM, x_noPartM, x_partM, x_sliceM, x_setIx, x_mutM, x_mutK, x_par2, x_par3, x_asgS, x_setD, x_tupG, x_consG, x_nilG, x_seqN, x_enumN, x_seqV, x_enumI, x_zipI, x_rng1, x_rng2, x_sortSetM, x_rgM, kt_NoneType_int, kt_NoneType_bool, kt_NoneType_str, kt_NoneType_tuple, kt_NoneType_list, kt_NoneType_dict, kt_bool_int, kt_bool_bool, kt_bool_str, kt_bool_tuple, kt_bool_list, kt_bool_dict, kt_int_int, kt_int_bool, kt_int_str, kt_int_tuple, kt_int_list, kt_int_dict, kt_str_int, kt_str_bool, kt_str_str, kt_str_tuple, kt_str_list, kt_str_dict, kt_tuple_int, kt_tuple_bool, kt_tuple_str, kt_tuple_tuple, kt_tuple_list, kt_tuple_dict, kt_list_int, kt_list_bool, kt_list_str, kt_list_tuple, kt_list_list, kt_list_dict, Int.reduceLE, Int.reduceSub, Int.reduceToNat, Int.reduceNeg, and_self, true_and, and_true, e, ixG_tup g]
  · simp only [x_free0, x_freeS, free1_v, free1_no, free1_own, peek, peekL, thaw, argSls, argSl, als, nodup?, putBack, stepBack, tyOf, mutK, shOk, plainR, outs, x_seqS, List.replicate, List.append_nil, List.nil_append, List.cons_append, List.getElem?_cons_zero, List.getElem?_cons_succ, List.set_cons_zero, List.set_cons_succ, if_true, Bool.false_eq_true, if_false, reduceIte, List.contains_nil, List.contains_cons, Bool.not_false, Bool.not_true, Bool.and_true, Bool.true_and, Bool.and_false, Bool.or_false, Bool.false_or, Bool.false_and, Bool.true_or, Bool.or_true, addG_int, subI_int, eqG_int, neG_int, eqG_bl, neG_bl, cmpI_int, intG, lenG, absG, List.length_cons, sizeLine_eq, Nat.reduceLeDiff, Nat.reduceLT, Nat.zero_le, Nat.zero_add, List.length_nil, Nat.reduceAdd, beq_self_eq_true, Nat.reduceBEq, reduceCtorEq, Nat.reduceEqDiff, bd_ok, bd_bad, bd_err, x_nopS, x_badS, x_bkS, x_ctS, x_ifM, x_ifS, x_dropS, x_retS, x_retR_v, x_retR_fr, x_retR_al, x_retN, x_setS, x_setR_v, x_setR_fr, x_setR_al, x_varM, x_litM, x_liftO_v, x_liftO_fr, x_liftO_n, x_bin2, x_peek2, x_un1, x_asB, x_toB, x_andM, x_orM, x_notM, x_andV, x_orV, x_notV, x_nilA, x_consA, x_nilV, x_consV, x_tupM, x_lstM, x_callM, x_toV, x_toP, x_toPr_v, x_toPr_fr, x_toPr_al, callR_ok, x_callF, x_isaM, x_chainM, x_noPartM, x_partM, x_sliceM, x_setIx, x_mutM, x_mutK, x_par2, x_par3, x_asgS, x_setD, x_tupG, x_consG, x_nilG, x_seqN, x_enumN, x_seqV, x_enumI, x_zipI, x_rng1, x_rng2, x_sortSetM, x_rgM, kt_NoneType_int, kt_NoneType_bool, kt_NoneType_str, kt_NoneType_tuple, kt_NoneType_list, kt_NoneType_dict, kt_bool_int, kt_bool_bool, kt_bool_str, kt_bool_tuple, kt_bool_list, kt_bool_dict, kt_int_int, kt_int_bool, kt_int_str, kt_int_tuple, kt_int_list, kt_int_dict, kt_str_int, kt_str_bool, kt_str_str, kt_str_tuple, kt_str_list, kt_str_dict, kt_tuple_int, kt_tuple_bool, kt_tuple_str, kt_tuple_tuple, kt_tuple_list, kt_tuple_dict, kt_list_int, kt_list_bool, kt_list_str, kt_list_tuple, kt_list_list, kt_list_dict, Int.reduceLE, Int.reduceSub, Int.reduceToNat, Int.reduceNeg, and_self, true_and, and_true, e, ixG_lst g]
theorem hand_ok (ns : List Int) (b : Bool) : ∃ hd, F__law_hand [scr b ns] = .ok (.fr hd) [scr b ns] ∧ HOk 0 hd := by
  have habs : ∀ i : Int, (0 : Int) ≤ if i < 0 then -i else i := fun i => by split <;> omega
  obtain ⟨cells, hc⟩ : ∃ cells : List Int, cells = (ns.take 63).map fun i : Int => if i < 0 then -i else i := ⟨_, rfl⟩
  have cut : Fw.cutD (ns.map D.int) none (some 63) = (ns.take 63).map D.int := by
    unfold Fw.cutD
    rw [show HT.sIx (ns.map D.int).length 0 none = 0 from rfl, List.drop_zero]
    show List.take (HT.sIx (ns.map D.int).length (ns.map D.int).length (some ((63 : Nat) : Int)) - 0) _ = _
    rw [HT.sIx_nat, List.length_map, Nat.sub_zero, ← List.map_take]
    by_cases h : 63 ≤ ns.length
    · rw [Nat.min_eq_left h]
    · rw [Nat.min_eq_right (by omega), List.take_of_length_le (Nat.le_refl _), List.take_of_length_le (by omega)]
  have hl : cells.length ≤ 63 := by rw [hc, List.length_map, List.length_take]; omega
  refine ⟨hand5 cells 0 0 (239 + cells.length) 0, ?_, ⟨cells, 0, 0, 239 + cells.length, 0, rfl, fun c h => ?_, by omega, by omega, by omega, by omega, by omega, by omega⟩⟩
  · have lc : ∀ s0 : Sl, lcL [2] (setD 2) yesM (toV (callM absG (consA (callM intG (consA (varM 2) nilA)) nilA))) ((ns.take 63).map D.int) [s0, .no, .no] = .ok (cells.map D.int) [s0, .no, .no] := fun s0 => by
      have : cells.map D.int = ((ns.take 63).map D.int).map fun d => match d with
        | .int i => .int (if i < 0 then -i else i)
        | d => d := by rw [hc, List.map_map, List.map_map]; rfl
      rw [this]
      refine lcL_map _ fun d hd => ?_
      obtain ⟨i, _, rfl⟩ := List.mem_map.mp hd
      refine ⟨[s0, .no, .v (.int i)], [s0, .no, .v (.int i)], ?_, ?_, rfl⟩
      · simp only [x_free0, x_freeS, free1_v, free1_no, free1_own, peek, peekL, thaw, argSls, argSl, als, nodup?, putBack, stepBack, tyOf, mutK, shOk, plainR, outs, x_seqS, List.replicate, List.append_nil, List.nil_append, List.cons_append, List.getElem?_cons_zero, List.getElem?_cons_succ, List.set_cons_zero, List.set_cons_succ, if_true, Bool.false_eq_true, if_false, reduceIte, List.contains_nil, List.contains_cons, Bool.not_false, Bool.not_true, Bool.and_true, Bool.true_and, Bool.and_false, Bool.or_false, Bool.false_or, Bool.false_and, Bool.true_or, Bool.or_true, addG_int, subI_int, eqG_int, neG_int, eqG_bl, neG_bl, cmpI_int, intG, lenG, absG, List.length_cons, sizeLine_eq, Nat.reduceLeDiff, Nat.reduceLT, Nat.zero_le, Nat.zero_add, List.length_nil, Nat.reduceAdd, beq_self_eq_true, Nat.reduceBEq, reduceCtorEq, Nat.reduceEqDiff, bd_ok, bd_bad, bd_err, x_nopS, x_badS, x_bkS, x_ctS, x_ifM, x_ifS, x_dropS, x_retS, x_retR_v, x_retR_fr, x_retR_al, x_retN, x_setS, x_setR_v, x_setR_fr, x_setR_al, x_varM, x_litM, x_liftO_v, x_liftO_fr, x_liftO_n, x_bin2, x_peek2, x_un1, x_asB, x_toB, x_andM, x_orM, x_notM, x_andV, x_orV, x_notV, x_nilA, x_consA, x_nilV, x_consV, x_tupM, x_lstM, x_callM, x_toV, x_toP, x_toPr_v, x_toPr_fr, x_toPr_al, callR_ok, x_callF, x_isaM, x_chainM, x_noPartM, x_partM, x_sliceM, x_setIx, x_mutM, x_mutK, x_par2, x_par3, x_asgS, x_setD, x_tupG, x_consG, x_nilG, x_seqN, x_enumN, x_seqV, x_enumI, x_zipI, x_rng1, x_rng2, x_sortSetM, x_rgM, kt_NoneType_int, kt_NoneType_bool, kt_NoneType_str, kt_NoneType_tuple, kt_NoneType_list, kt_NoneType_dict, kt_bool_int, kt_bool_bool, kt_bool_str, kt_bool_tuple, kt_bool_list, kt_bool_dict, kt_int_int, kt_int_bool, kt_int_str, kt_int_tuple, kt_int_list, kt_int_dict, kt_str_int, kt_str_bool, kt_str_str, kt_str_tuple, kt_str_list, kt_str_dict, kt_tuple_int, kt_tuple_bool, kt_tuple_str, kt_tuple_tuple, kt_tuple_list, kt_tuple_dict, kt_list_int, kt_list_bool, kt_list_str, kt_list_tuple, kt_list_list, kt_list_dict, Int.reduceLE, Int.reduceSub, Int.reduceToNat, Int.reduceNeg, and_self, true_and, and_true]
      · simp only [x_free0, x_freeS, free1_v, free1_no, free1_own, peek, peekL, thaw, argSls, argSl, als, nodup?, putBack, stepBack, tyOf, mutK, shOk, plainR, outs, x_seqS, List.replicate, List.append_nil, List.nil_append, List.cons_append, List.getElem?_cons_zero, List.getElem?_cons_succ, List.set_cons_zero, List.set_cons_succ, if_true, Bool.false_eq_true, if_false, reduceIte, List.contains_nil, List.contains_cons, Bool.not_false, Bool.not_true, Bool.and_true, Bool.true_and, Bool.and_false, Bool.or_false, Bool.false_or, Bool.false_and, Bool.true_or, Bool.or_true, addG_int, subI_int, eqG_int, neG_int, eqG_bl, neG_bl, cmpI_int, intG, lenG, absG, List.length_cons, sizeLine_eq, Nat.reduceLeDiff, Nat.reduceLT, Nat.zero_le, Nat.zero_add, List.length_nil, Nat.reduceAdd, beq_self_eq_true, Nat.reduceBEq, reduceCtorEq, Nat.reduceEqDiff, bd_ok, bd_bad, bd_err, x_nopS, x_badS, x_bkS, x_ctS, x_ifM, x_ifS, x_dropS, x_retS, x_retR_v, x_retR_fr, x_retR_al, x_retN, x_setS, x_setR_v, x_setR_fr, x_setR_al, x_varM, x_litM, x_liftO_v, x_liftO_fr, x_liftO_n, x_bin2, x_peek2, x_un1, x_asB, x_toB, x_andM, x_orM, x_notM, x_andV, x_orV, x_notV, x_nilA, x_consA, x_nilV, x_consV, x_tupM, x_lstM, x_callM, x_toV, x_toP, x_toPr_v, x_toPr_fr, x_toPr_al, callR_ok, x_callF, x_isaM, x_chainM, x_noPartM, x_partM, x_sliceM, x_setIx, x_mutM, x_mutK, x_par2, x_par3, x_asgS, x_setD, x_tupG, x_consG, x_nilG, x_seqN, x_enumN, x_seqV, x_enumI, x_zipI, x_rng1, x_rng2, x_sortSetM, x_rgM, kt_NoneType_int, kt_NoneType_bool, kt_NoneType_str, kt_NoneType_tuple, kt_NoneType_list, kt_NoneType_dict, kt_bool_int, kt_bool_bool, kt_bool_str, kt_bool_tuple, kt_bool_list, kt_bool_dict, kt_int_int, kt_int_bool, kt_int_str, kt_int_tuple, kt_int_list, kt_int_dict, kt_str_int, kt_str_bool, kt_str_str, kt_str_tuple, kt_str_list, kt_str_dict, kt_tuple_int, kt_tuple_bool, kt_tuple_str, kt_tuple_tuple, kt_tuple_list, kt_tuple_dict, kt_list_int, kt_list_bool, kt_list_str, kt_list_tuple, kt_list_list, kt_list_dict, Int.reduceLE, Int.reduceSub, Int.reduceToNat, Int.reduceNeg, and_self, true_and, and_true]
    have src : seqV (toV (sliceM (varM 0) noPartM (partM (litM (.int 63))))) [scr b ns, .no, .no] = .ok ((ns.take 63).map D.int, none) [scr b ns, .no, .no] := by
      cases b <;> simp only [x_free0, x_freeS, free1_v, free1_no, free1_own, peek, peekL, thaw, argSls, argSl, als, nodup?, putBack, stepBack, tyOf, mutK, shOk, plainR, outs, x_seqS, List.replicate, List.append_nil, List.nil_append, List.cons_append, List.getElem?_cons_zero, List.getElem?_cons_succ, List.set_cons_zero, List.set_cons_succ, if_true, Bool.false_eq_true, if_false, reduceIte, List.contains_nil, List.contains_cons, Bool.not_false, Bool.not_true, Bool.and_true, Bool.true_and, Bool.and_false, Bool.or_false, Bool.false_or, Bool.false_and, Bool.true_or, Bool.or_true, addG_int, subI_int, eqG_int, neG_int, eqG_bl, neG_bl, cmpI_int, intG, lenG, absG, List.length_cons, sizeLine_eq, Nat.reduceLeDiff, Nat.reduceLT, Nat.zero_le, Nat.zero_add, List.length_nil, Nat.reduceAdd, beq_self_eq_true, Nat.reduceBEq, reduceCtorEq, Nat.reduceEqDiff, bd_ok, bd_bad, bd_err, x_nopS, x_badS, x_bkS, x_ctS, x_ifM, x_ifS, x_dropS, x_retS, x_retR_v, x_retR_fr, x_retR_al, x_retN, x_setS, x_setR_v, x_setR_fr, x_setR_al, x_varM, x_litM, x_liftO_v, x_liftO_fr, x_liftO_n, x_bin2, x_peek2, x_un1, x_asB, x_toB, x_andM, x_orM, x_notM, x_andV, x_orV, x_notV, x_nilA, x_consA, x_nilV, x_consV, x_tupM, x_lstM, x_callM, x_toV, x_toP, x_toPr_v, x_toPr_fr, x_toPr_al, callR_ok, x_callF, x_isaM, x_chainM, x_noPartM, x_partM, x_sliceM, x_setIx, x_mutM, x_mutK, x_par2, x_par3, x_asgS, x_setD, x_tupG, x_consG, x_nilG, x_seqN, x_enumN, x_seqV, x_enumI, x_zipI, x_rng1, x_rng2, x_sortSetM, x_rgM, kt_NoneType_int, kt_NoneType_bool, kt_NoneType_str, kt_NoneType_tuple, kt_NoneType_list, kt_NoneType_dict, kt_bool_int, kt_bool_bool, kt_bool_str, kt_bool_tuple, kt_bool_list, kt_bool_dict, kt_int_int, kt_int_bool, kt_int_str, kt_int_tuple, kt_int_list, kt_int_dict, kt_str_int, kt_str_bool, kt_str_str, kt_str_tuple, kt_str_list, kt_str_dict, kt_tuple_int, kt_tuple_bool, kt_tuple_str, kt_tuple_tuple, kt_tuple_list, kt_tuple_dict, kt_list_int, kt_list_bool, kt_list_str, kt_list_tuple, kt_list_list, kt_list_dict, Int.reduceLE, Int.reduceSub, Int.reduceToNat, Int.reduceNeg, and_self, true_and, and_true, scr, cut]
    have hcm := lcM_none' src (vs := [2]) (g := setD 2) (ft := yesM) (fe := toV (callM absG (consA (callM intG (consA (varM 2) nilA)) nilA))) (lc (scr b ns))
    unfold F__law_hand fnD b__law_hand
    simp only [x_free0, x_freeS, free1_v, free1_no, free1_own, peek, peekL, thaw, argSls, argSl, als, nodup?, putBack, stepBack, tyOf, mutK, shOk, plainR, outs, x_seqS, List.replicate, List.append_nil, List.nil_append, List.cons_append, List.getElem?_cons_zero, List.getElem?_cons_succ, List.set_cons_zero, List.set_cons_succ, if_true, Bool.false_eq_true, if_false, reduceIte, List.contains_nil, List.contains_cons, Bool.not_false, Bool.not_true, Bool.and_true, Bool.true_and, Bool.and_false, Bool.or_false, Bool.false_or, Bool.false_and, Bool.true_or, Bool.or_true, addG_int, subI_int, eqG_int, neG_int, eqG_bl, neG_bl, cmpI_int, intG, lenG, absG, List.length_cons, sizeLine_eq, Nat.reduceLeDiff, Nat.reduceLT, Nat.zero_le, Nat.zero_add, List.length_nil, Nat.reduceAdd, beq_self_eq_true, Nat.reduceBEq, reduceCtorEq, Nat.reduceEqDiff, bd_ok, bd_bad, bd_err, x_nopS, x_badS, x_bkS, x_ctS, x_ifM, x_ifS, x_dropS, x_retS, x_retR_v, x_retR_fr, x_retR_al, x_retN, x_setS, x_setR_v, x_setR_fr, x_setR_al, x_varM, x_litM, x_liftO_v, x_liftO_fr, x_liftO_n, x_bin2, x_peek2, x_un1, x_asB, x_toB, x_andM, x_orM, x_notM, x_andV, x_orV, x_notV, x_nilA, x_consA, x_nilV, x_consV, x_tupM, x_lstM, x_callM, x_toV, x_toP, x_toPr_v, x_toPr_fr, x_toPr_al, callR_ok, x_callF, x_isaM, x_chainM, x_noPartM, x_partM, x_sliceM, x_setIx, x_mutM, x_mutK, x_par2, x_par3, x_asgS, x_setD, x_tupG, x_consG, x_nilG, x_seqN, x_enumN, x_seqV, x_enumI, x_zipI, x_rng1, x_rng2, x_sortSetM, x_rgM, kt_NoneType_int, kt_NoneType_bool, kt_NoneType_str, kt_NoneType_tuple, kt_NoneType_list, kt_NoneType_dict, kt_bool_int, kt_bool_bool, kt_bool_str, kt_bool_tuple, kt_bool_list, kt_bool_dict, kt_int_int, kt_int_bool, kt_int_str, kt_int_tuple, kt_int_list, kt_int_dict, kt_str_int, kt_str_bool, kt_str_str, kt_str_tuple, kt_str_list, kt_str_dict, kt_tuple_int, kt_tuple_bool, kt_tuple_str, kt_tuple_tuple, kt_tuple_list, kt_tuple_dict, kt_list_int, kt_list_bool, kt_list_str, kt_list_tuple, kt_list_list, kt_list_dict, Int.reduceLE, Int.reduceSub, Int.reduceToNat, Int.reduceNeg, and_self, true_and, and_true, hcm, List.length_map]
    cases b <;> simp only [x_free0, x_freeS, free1_v, free1_no, free1_own, peek, peekL, thaw, argSls, argSl, als, nodup?, putBack, stepBack, tyOf, mutK, shOk, plainR, outs, x_seqS, List.replicate, List.append_nil, List.nil_append, List.cons_append, List.getElem?_cons_zero, List.getElem?_cons_succ, List.set_cons_zero, List.set_cons_succ, if_true, Bool.false_eq_true, if_false, reduceIte, List.contains_nil, List.contains_cons, Bool.not_false, Bool.not_true, Bool.and_true, Bool.true_and, Bool.and_false, Bool.or_false, Bool.false_or, Bool.false_and, Bool.true_or, Bool.or_true, addG_int, subI_int, eqG_int, neG_int, eqG_bl, neG_bl, cmpI_int, intG, lenG, absG, List.length_cons, sizeLine_eq, Nat.reduceLeDiff, Nat.reduceLT, Nat.zero_le, Nat.zero_add, List.length_nil, Nat.reduceAdd, beq_self_eq_true, Nat.reduceBEq, reduceCtorEq, Nat.reduceEqDiff, bd_ok, bd_bad, bd_err, x_nopS, x_badS, x_bkS, x_ctS, x_ifM, x_ifS, x_dropS, x_retS, x_retR_v, x_retR_fr, x_retR_al, x_retN, x_setS, x_setR_v, x_setR_fr, x_setR_al, x_varM, x_litM, x_liftO_v, x_liftO_fr, x_liftO_n, x_bin2, x_peek2, x_un1, x_asB, x_toB, x_andM, x_orM, x_notM, x_andV, x_orV, x_notV, x_nilA, x_consA, x_nilV, x_consV, x_tupM, x_lstM, x_callM, x_toV, x_toP, x_toPr_v, x_toPr_fr, x_toPr_al, callR_ok, x_callF, x_isaM, x_chainM, x_noPartM, x_partM, x_sliceM, x_setIx, x_mutM, x_mutK, x_par2, x_par3, x_asgS, x_setD, x_tupG, x_consG, x_nilG, x_seqN, x_enumN, x_seqV, x_enumI, x_zipI, x_rng1, x_rng2, x_sortSetM, x_rgM, kt_NoneType_int, kt_NoneType_bool, kt_NoneType_str, kt_NoneType_tuple, kt_NoneType_list, kt_NoneType_dict, kt_bool_int, kt_bool_bool, kt_bool_str, kt_bool_tuple, kt_bool_list, kt_bool_dict, kt_int_int, kt_int_bool, kt_int_str, kt_int_tuple, kt_int_list, kt_int_dict, kt_str_int, kt_str_bool, kt_str_str, kt_str_tuple, kt_str_list, kt_str_dict, kt_tuple_int, kt_tuple_bool, kt_tuple_str, kt_tuple_tuple, kt_tuple_list, kt_tuple_dict, kt_list_int, kt_list_bool, kt_list_str, kt_list_tuple, kt_list_list, kt_list_dict, Int.reduceLE, Int.reduceSub, Int.reduceToNat, Int.reduceNeg, and_self, true_and, and_true, scr, hand5]
  · rw [hc] at h
    obtain ⟨i, _, rfl⟩ := List.mem_map.mp h
    exact habs i
end K59
set_option linter.all false
set_option maxRecDepth 100000
set_option maxHeartbeats 4000000
namespace K59
open PySem PySem.Spec PyProof.Rows L2 Fw
theorem zipL_self (xs : List D) : ∀ z ∈ zipL xs xs, ∃ x ∈ xs, z = .tup [x, x] := by
  intro z hz
  obtain ⟨i, hi, e⟩ := List.getElem_of_mem hz
  have hl : i < xs.length := by rw [zipL_len] at hi; omega
  have g := List.getElem?_eq_getElem hl
  have := zipL_get g g
  rw [List.getElem?_eq_getElem hi, e] at this
  cases this
  exact ⟨_, List.getElem_mem hl, rfl⟩
theorem alls (zs : List D) : allG [.lst (zs.map fun _ => .bl true)] = some (.v (.bl true)) := by
  have : zs.map (fun _ => D.bl true) = (zs.map fun _ => true).map D.bl := by rw [List.map_map]; rfl
  show (boolsOf _).map _ = _
  rw [this, boolsOf_map]
  simp
mutual
theorem eq_self : ∀ (n : Nat) (d : D), d.fit n = true → D.eq d d = true
  | _, .non, _ => rfl
  | _, .bl _, _ => by simp [D.eq]
  | _, .int _, _ => by simp [D.eq]
  | _, .str _, _ => by simp [D.eq]
  | 0, .tup _, h => by simp [D.fit] at h
  | n + 1, .tup xs, h => by simp only [D.eq]; exact eqL_self n xs (by simpa [D.fit] using h)
  | 0, .lst _, h => by simp [D.fit] at h
  | n + 1, .lst xs, h => by simp only [D.eq]; exact eqL_self n xs (by simpa [D.fit] using h)
  | _, .dic _ _, h => by simp [D.fit] at h
  | _, .fn _, h => by simp [D.fit] at h
theorem eqL_self : ∀ (n : Nat) (ds : List D), (∀ d ∈ ds, d.fit n = true) → D.eqL ds ds = true
  | _, [], _ => rfl
  | n, d :: ds, h => by simp only [D.eqL, eq_self n d (h d (by simp)), eqL_self n ds fun x hx => h x (by simp [hx]), Bool.and_self]
end
theorem eqG_self {d : D} (h : d.fit deep = true) : eqG d d = some (.v (.bl true)) := by
  unfold eqG; rw [h, Bool.and_self, if_pos rfl, eq_self _ d h]
theorem is_self : ∀ (n : Nat) (d : D), d.fit n = true → n ≤ 40 → F__law_is (n + 1) [.v d, .v d] = .ok (.v (.bl true)) [.v d, .v d] := by
  intro n d h hn
  have hd : d.fit deep = true := fit_mono h (by unfold deep; omega)
  have q := eqG_self hd
  have rows : ∀ xs : List D, ∀ s : D, (∀ x ∈ xs, ∃ m, x.fit m = true ∧ n = m + 1) → lcL [2, 3] (tupG 2 (consG (setD 2) (consG (setD 3) nilG))) yesM (toV (callF (F__law_is n) (consA (varM 2) (consA (varM 3) nilA)))) (zipL xs xs) [.v s, .v s, .no, .no] = .ok ((zipL xs xs).map fun _ => .bl true) [.v s, .v s, .no, .no] := fun xs s hx => by
    refine lcL_map _ fun z hz => ?_
    obtain ⟨x, hm, rfl⟩ := zipL_self xs z hz
    obtain ⟨m, fx, rfl⟩ := hx x hm
    have ih := is_self m x fx (by omega)
    refine ⟨[.v s, .v s, .v x, .v x], [.v s, .v s, .v x, .v x], ?_, ?_, rfl⟩
    · simp only [x_free0, x_freeS, free1_v, free1_no, free1_own, peek, peekL, thaw, argSls, argSl, als, nodup?, putBack, stepBack, tyOf, mutK, shOk, plainR, outs, x_seqS, List.replicate, List.append_nil, List.nil_append, List.cons_append, List.getElem?_cons_zero, List.getElem?_cons_succ, List.set_cons_zero, List.set_cons_succ, if_true, Bool.false_eq_true, if_false, reduceIte, List.contains_nil, List.contains_cons, Bool.not_false, Bool.not_true, Bool.and_true, Bool.true_and, Bool.and_false, Bool.or_false, Bool.false_or, Bool.false_and, Bool.true_or, Bool.or_true, addG_int, subI_int, eqG_int, neG_int, eqG_bl, neG_bl, cmpI_int, intG, lenG, absG, List.length_cons, sizeLine_eq, Nat.reduceLeDiff, Nat.reduceLT, Nat.zero_le, Nat.zero_add, List.length_nil, Nat.reduceAdd, beq_self_eq_true, Nat.reduceBEq, reduceCtorEq, Nat.reduceEqDiff, bd_ok, bd_bad, bd_err, x_nopS, x_badS, x_bkS, x_ctS, x_ifM, x_ifS, x_dropS, x_retS, x_retR_v, x_retR_fr, x_retR_al, x_retN, x_setS, x_setR_v, x_setR_fr, x_setR_al, x_varM, x_litM, x_liftO_v, x_liftO_fr, x_liftO_n, x_bin2, x_peek2, x_un1, x_asB, x_toB, x_andM, x_orM, x_notM, x_andV, x_orV, x_notV, x_nilA, x_consA, x_nilV, x_consV, x_tupM, x_lstM, x_callM, x_toV, x_toP, x_toPr_v, x_toPr_fr, x_toPr_al, callR_ok, x_callF, x_isaM, x_chainM, x_noPartM, x_partM, x_sliceM, x_setIx, x_mutM, x_mutK, x_par2, x_par3, x_asgS, x_setD, x_tupG, x_consG, x_nilG, x_seqN, x_enumN, x_seqV, x_enumI, x_zipI, x_rng1, x_rng2, x_sortSetM, x_rgM, kt_NoneType_int, kt_NoneType_bool, kt_NoneType_str, kt_NoneType_tuple, kt_NoneType_list, kt_NoneType_dict, kt_bool_int, kt_bool_bool, kt_bool_str, kt_bool_tuple, kt_bool_list, kt_bool_dict, kt_int_int, kt_int_bool, kt_int_str, kt_int_tuple, kt_int_list, kt_int_dict, kt_str_int, kt_str_bool, kt_str_str, kt_str_tuple, kt_str_list, kt_str_dict, kt_tuple_int, kt_tuple_bool, kt_tuple_str, kt_tuple_tuple, kt_tuple_list, kt_tuple_dict, kt_list_int, kt_list_bool, kt_list_str, kt_list_tuple, kt_list_list, kt_list_dict, Int.reduceLE, Int.reduceSub, Int.reduceToNat, Int.reduceNeg, and_self, true_and, and_true]
    · simp only [x_free0, x_freeS, free1_v, free1_no, free1_own, peek, peekL, thaw, argSls, argSl, als, nodup?, putBack, stepBack, tyOf, mutK, shOk, plainR, outs, x_seqS, List.replicate, List.append_nil, List.nil_append, List.cons_append, List.getElem?_cons_zero, List.getElem?_cons_succ, List.set_cons_zero, List.set_cons_succ, if_true, Bool.false_eq_true, if_false, reduceIte, List.contains_nil, List.contains_cons, Bool.not_false, Bool.not_true, Bool.and_true, Bool.true_and, Bool.and_false, Bool.or_false, Bool.false_or, Bool.false_and, Bool.true_or, Bool.or_true, addG_int, subI_int, eqG_int, neG_int, eqG_bl, neG_bl, cmpI_int, intG, lenG, absG, List.length_cons, sizeLine_eq, Nat.reduceLeDiff, Nat.reduceLT, Nat.zero_le, Nat.zero_add, List.length_nil, Nat.reduceAdd, beq_self_eq_true, Nat.reduceBEq, reduceCtorEq, Nat.reduceEqDiff, bd_ok, bd_bad, bd_err, x_nopS, x_badS, x_bkS, x_ctS, x_ifM, x_ifS, x_dropS, x_retS, x_retR_v, x_retR_fr, x_retR_al, x_retN, x_setS, x_setR_v, x_setR_fr, x_setR_al, x_varM, x_litM, x_liftO_v, x_liftO_fr, x_liftO_n, x_bin2, x_peek2, x_un1, x_asB, x_toB, x_andM, x_orM, x_notM, x_andV, x_orV, x_notV, x_nilA, x_consA, x_nilV, x_consV, x_tupM, x_lstM, x_callM, x_toV, x_toP, x_toPr_v, x_toPr_fr, x_toPr_al, callR_ok, x_callF, x_isaM, x_chainM, x_noPartM, x_partM, x_sliceM, x_setIx, x_mutM, x_mutK, x_par2, x_par3, x_asgS, x_setD, x_tupG, x_consG, x_nilG, x_seqN, x_enumN, x_seqV, x_enumI, x_zipI, x_rng1, x_rng2, x_sortSetM, x_rgM, kt_NoneType_int, kt_NoneType_bool, kt_NoneType_str, kt_NoneType_tuple, kt_NoneType_list, kt_NoneType_dict, kt_bool_int, kt_bool_bool, kt_bool_str, kt_bool_tuple, kt_bool_list, kt_bool_dict, kt_int_int, kt_int_bool, kt_int_str, kt_int_tuple, kt_int_list, kt_int_dict, kt_str_int, kt_str_bool, kt_str_str, kt_str_tuple, kt_str_list, kt_str_dict, kt_tuple_int, kt_tuple_bool, kt_tuple_str, kt_tuple_tuple, kt_tuple_list, kt_tuple_dict, kt_list_int, kt_list_bool, kt_list_str, kt_list_tuple, kt_list_list, kt_list_dict, Int.reduceLE, Int.reduceSub, Int.reduceToNat, Int.reduceNeg, and_self, true_and, and_true, ih]
  show fnD 2 (b__law_is (F__law_is n)) _ = _
  cases d with
  | tup xs =>
    have hx : ∀ x ∈ xs, ∃ m, x.fit m = true ∧ n = m + 1 := fun x hx => by
      cases n with
      | zero => simp [D.fit] at h
      | succ m => exact ⟨m, (List.all_eq_true.mp (by simpa only [D.fit] using h)) x hx, rfl⟩
    have src : zipI (consV (toV (varM 0)) (consV (toV (varM 1)) nilV)) [.v (.tup xs), .v (.tup xs), .no, .no] = .ok (zipL xs xs, none) [.v (.tup xs), .v (.tup xs), .no, .no] := by simp only [x_free0, x_freeS, free1_v, free1_no, free1_own, peek, peekL, thaw, argSls, argSl, als, nodup?, putBack, stepBack, tyOf, mutK, shOk, plainR, outs, x_seqS, List.replicate, List.append_nil, List.nil_append, List.cons_append, List.getElem?_cons_zero, List.getElem?_cons_succ, List.set_cons_zero, List.set_cons_succ, if_true, Bool.false_eq_true, if_false, reduceIte, List.contains_nil, List.contains_cons, Bool.not_false, Bool.not_true, Bool.and_true, Bool.true_and, Bool.and_false, Bool.or_false, Bool.false_or, Bool.false_and, Bool.true_or, Bool.or_true, addG_int, subI_int, eqG_int, neG_int, eqG_bl, neG_bl, cmpI_int, intG, lenG, absG, List.length_cons, sizeLine_eq, Nat.reduceLeDiff, Nat.reduceLT, Nat.zero_le, Nat.zero_add, List.length_nil, Nat.reduceAdd, beq_self_eq_true, Nat.reduceBEq, reduceCtorEq, Nat.reduceEqDiff, bd_ok, bd_bad, bd_err, x_nopS, x_badS, x_bkS, x_ctS, x_ifM, x_ifS, x_dropS, x_retS, x_retR_v, x_retR_fr, x_retR_al, x_retN, x_setS, x_setR_v, x_setR_fr, x_setR_al, x_varM, x_litM, x_liftO_v, x_liftO_fr, x_liftO_n, x_bin2, x_peek2, x_un1, x_asB, x_toB, x_andM, x_orM, x_notM, x_andV, x_orV, x_notV, x_nilA, x_consA, x_nilV, x_consV, x_tupM, x_lstM, x_callM, x_toV, x_toP, x_toPr_v, x_toPr_fr, x_toPr_al, callR_ok, x_callF, x_isaM, x_chainM, x_noPartM, x_partM, x_sliceM, x_setIx, x_mutM, x_mutK, x_par2, x_par3, x_asgS, x_setD, x_tupG, x_consG, x_nilG, x_seqN, x_enumN, x_seqV, x_enumI, x_zipI, x_rng1, x_rng2, x_sortSetM, x_rgM, kt_NoneType_int, kt_NoneType_bool, kt_NoneType_str, kt_NoneType_tuple, kt_NoneType_list, kt_NoneType_dict, kt_bool_int, kt_bool_bool, kt_bool_str, kt_bool_tuple, kt_bool_list, kt_bool_dict, kt_int_int, kt_int_bool, kt_int_str, kt_int_tuple, kt_int_list, kt_int_dict, kt_str_int, kt_str_bool, kt_str_str, kt_str_tuple, kt_str_list, kt_str_dict, kt_tuple_int, kt_tuple_bool, kt_tuple_str, kt_tuple_tuple, kt_tuple_list, kt_tuple_dict, kt_list_int, kt_list_bool, kt_list_str, kt_list_tuple, kt_list_list, kt_list_dict, Int.reduceLE, Int.reduceSub, Int.reduceToNat, Int.reduceNeg, and_self, true_and, and_true]
    have lc := lcM_none' src (rows xs (.tup xs) hx)
    unfold fnD b__law_is
    simp only [x_free0, x_freeS, free1_v, free1_no, free1_own, peek, peekL, thaw, argSls, argSl, als, nodup?, putBack, stepBack, tyOf, mutK, shOk, plainR, outs, x_seqS, List.replicate, List.append_nil, List.nil_append, List.cons_append, List.getElem?_cons_zero, List.getElem?_cons_succ, List.set_cons_zero, List.set_cons_succ, if_true, Bool.false_eq_true, if_false, reduceIte, List.contains_nil, List.contains_cons, Bool.not_false, Bool.not_true, Bool.and_true, Bool.true_and, Bool.and_false, Bool.or_false, Bool.false_or, Bool.false_and, Bool.true_or, Bool.or_true, addG_int, subI_int, eqG_int, neG_int, eqG_bl, neG_bl, cmpI_int, intG, lenG, absG, List.length_cons, sizeLine_eq, Nat.reduceLeDiff, Nat.reduceLT, Nat.zero_le, Nat.zero_add, List.length_nil, Nat.reduceAdd, beq_self_eq_true, Nat.reduceBEq, reduceCtorEq, Nat.reduceEqDiff, bd_ok, bd_bad, bd_err, x_nopS, x_badS, x_bkS, x_ctS, x_ifM, x_ifS, x_dropS, x_retS, x_retR_v, x_retR_fr, x_retR_al, x_retN, x_setS, x_setR_v, x_setR_fr, x_setR_al, x_varM, x_litM, x_liftO_v, x_liftO_fr, x_liftO_n, x_bin2, x_peek2, x_un1, x_asB, x_toB, x_andM, x_orM, x_notM, x_andV, x_orV, x_notV, x_nilA, x_consA, x_nilV, x_consV, x_tupM, x_lstM, x_callM, x_toV, x_toP, x_toPr_v, x_toPr_fr, x_toPr_al, callR_ok, x_callF, x_isaM, x_chainM, x_noPartM, x_partM, x_sliceM, x_setIx, x_mutM, x_mutK, x_par2, x_par3, x_asgS, x_setD, x_tupG, x_consG, x_nilG, x_seqN, x_enumN, x_seqV, x_enumI, x_zipI, x_rng1, x_rng2, x_sortSetM, x_rgM, kt_NoneType_int, kt_NoneType_bool, kt_NoneType_str, kt_NoneType_tuple, kt_NoneType_list, kt_NoneType_dict, kt_bool_int, kt_bool_bool, kt_bool_str, kt_bool_tuple, kt_bool_list, kt_bool_dict, kt_int_int, kt_int_bool, kt_int_str, kt_int_tuple, kt_int_list, kt_int_dict, kt_str_int, kt_str_bool, kt_str_str, kt_str_tuple, kt_str_list, kt_str_dict, kt_tuple_int, kt_tuple_bool, kt_tuple_str, kt_tuple_tuple, kt_tuple_list, kt_tuple_dict, kt_list_int, kt_list_bool, kt_list_str, kt_list_tuple, kt_list_list, kt_list_dict, Int.reduceLE, Int.reduceSub, Int.reduceToNat, Int.reduceNeg, and_self, true_and, and_true, lc, alls]
  | lst xs =>
    have hx : ∀ x ∈ xs, ∃ m, x.fit m = true ∧ n = m + 1 := fun x hx => by
      cases n with
      | zero => simp [D.fit] at h
      | succ m => exact ⟨m, (List.all_eq_true.mp (by simpa only [D.fit] using h)) x hx, rfl⟩
    have src : zipI (consV (toV (varM 0)) (consV (toV (varM 1)) nilV)) [.v (.lst xs), .v (.lst xs), .no, .no] = .ok (zipL xs xs, none) [.v (.lst xs), .v (.lst xs), .no, .no] := by simp only [x_free0, x_freeS, free1_v, free1_no, free1_own, peek, peekL, thaw, argSls, argSl, als, nodup?, putBack, stepBack, tyOf, mutK, shOk, plainR, outs, x_seqS, List.replicate, List.append_nil, List.nil_append, List.cons_append, List.getElem?_cons_zero, List.getElem?_cons_succ, List.set_cons_zero, List.set_cons_succ, if_true, Bool.false_eq_true, if_false, reduceIte, List.contains_nil, List.contains_cons, Bool.not_false, Bool.not_true, Bool.and_true, Bool.true_and, Bool.and_false, Bool.or_false, Bool.false_or, Bool.false_and, Bool.true_or, Bool.or_true, addG_int, subI_int, eqG_int, neG_int, eqG_bl, neG_bl, cmpI_int, intG, lenG, absG, List.length_cons, sizeLine_eq, Nat.reduceLeDiff, Nat.reduceLT, Nat.zero_le, Nat.zero_add, List.length_nil, Nat.reduceAdd, beq_self_eq_true, Nat.reduceBEq, reduceCtorEq, Nat.reduceEqDiff, bd_ok, bd_bad, bd_err, x_nopS, x_badS, x_bkS, x_ctS, x_ifM, x_ifS, x_dropS, x_retS, x_retR_v, x_retR_fr, x_retR_al, x_retN, x_setS, x_setR_v, x_setR_fr, x_setR_al, x_varM, x_litM, x_liftO_v, x_liftO_fr, x_liftO_n, x_bin2, x_peek2, x_un1, x_asB, x_toB, x_andM, x_orM, x_notM, x_andV, x_orV, x_notV, x_nilA, x_consA, x_nilV, x_consV, x_tupM, x_lstM, x_callM, x_toV, x_toP, x_toPr_v, x_toPr_fr, x_toPr_al, callR_ok, x_callF, x_isaM, x_chainM, x_noPartM, x_partM, x_sliceM, x_setIx, x_mutM, x_mutK, x_par2, x_par3, x_asgS, x_setD, x_tupG, x_consG, x_nilG, x_seqN, x_enumN, x_seqV, x_enumI, x_zipI, x_rng1, x_rng2, x_sortSetM, x_rgM, kt_NoneType_int, kt_NoneType_bool, kt_NoneType_str, kt_NoneType_tuple, kt_NoneType_list, kt_NoneType_dict, kt_bool_int, kt_bool_bool, kt_bool_str, kt_bool_tuple, kt_bool_list, kt_bool_dict, kt_int_int, kt_int_bool, kt_int_str, kt_int_tuple, kt_int_list, kt_int_dict, kt_str_int, kt_str_bool, kt_str_str, kt_str_tuple, kt_str_list, kt_str_dict, kt_tuple_int, kt_tuple_bool, kt_tuple_str, kt_tuple_tuple, kt_tuple_list, kt_tuple_dict, kt_list_int, kt_list_bool, kt_list_str, kt_list_tuple, kt_list_list, kt_list_dict, Int.reduceLE, Int.reduceSub, Int.reduceToNat, Int.reduceNeg, and_self, true_and, and_true]
    have lc := lcM_none' src (rows xs (.lst xs) hx)
    unfold fnD b__law_is
    simp only [x_free0, x_freeS, free1_v, free1_no, free1_own, peek, peekL, thaw, argSls, argSl, als, nodup?, putBack, stepBack, tyOf, mutK, shOk, plainR, outs, x_seqS, List.replicate, List.append_nil, List.nil_append, List.cons_append, List.getElem?_cons_zero, List.getElem?_cons_succ, List.set_cons_zero, List.set_cons_succ, if_true, Bool.false_eq_true, if_false, reduceIte, List.contains_nil, List.contains_cons, Bool.not_false, Bool.not_true, Bool.and_true, Bool.true_and, Bool.and_false, Bool.or_false, Bool.false_or, Bool.false_and, Bool.true_or, Bool.or_true, addG_int, subI_int, eqG_int, neG_int, eqG_bl, neG_bl, cmpI_int, intG, lenG, absG, List.length_cons, sizeLine_eq, Nat.reduceLeDiff, Nat.reduceLT, Nat.zero_le, Nat.zero_add, List.length_nil, Nat.reduceAdd, beq_self_eq_true, Nat.reduceBEq, reduceCtorEq, Nat.reduceEqDiff, bd_ok, bd_bad, bd_err, x_nopS, x_badS, x_bkS, x_ctS, x_ifM, x_ifS, x_dropS, x_retS, x_retR_v, x_retR_fr, x_retR_al, x_retN, x_setS, x_setR_v, x_setR_fr, x_setR_al, x_varM, x_litM, x_liftO_v, x_liftO_fr, x_liftO_n, x_bin2, x_peek2, x_un1, x_asB, x_toB, x_andM, x_orM, x_notM, x_andV, x_orV, x_notV, x_nilA, x_consA, x_nilV, x_consV, x_tupM, x_lstM, x_callM, x_toV, x_toP, x_toPr_v, x_toPr_fr, x_toPr_al, callR_ok, x_callF, x_isaM, x_chainM, x_noPartM, x_partM, x_sliceM, x_setIx, x_mutM, x_mutK, x_par2, x_par3, x_asgS, x_setD, x_tupG, x_consG, x_nilG, x_seqN, x_enumN, x_seqV, x_enumI, x_zipI, x_rng1, x_rng2, x_sortSetM, x_rgM, kt_NoneType_int, kt_NoneType_bool, kt_NoneType_str, kt_NoneType_tuple, kt_NoneType_list, kt_NoneType_dict, kt_bool_int, kt_bool_bool, kt_bool_str, kt_bool_tuple, kt_bool_list, kt_bool_dict, kt_int_int, kt_int_bool, kt_int_str, kt_int_tuple, kt_int_list, kt_int_dict, kt_str_int, kt_str_bool, kt_str_str, kt_str_tuple, kt_str_list, kt_str_dict, kt_tuple_int, kt_tuple_bool, kt_tuple_str, kt_tuple_tuple, kt_tuple_list, kt_tuple_dict, kt_list_int, kt_list_bool, kt_list_str, kt_list_tuple, kt_list_list, kt_list_dict, Int.reduceLE, Int.reduceSub, Int.reduceToNat, Int.reduceNeg, and_self, true_and, and_true, lc, alls]
  | non => unfold fnD b__law_is; simp only [x_free0, x_freeS, free1_v, free1_no, free1_own, peek, peekL, thaw, argSls, argSl, als, nodup?, putBack, stepBack, tyOf, mutK, shOk, plainR, outs, x_seqS, List.replicate, List.append_nil, List.nil_append, List.cons_append, List.getElem?_cons_zero, List.getElem?_cons_succ, List.set_cons_zero, List.set_cons_succ, if_true, Bool.false_eq_true, if_false, reduceIte, List.contains_nil, List.contains_cons, Bool.not_false, Bool.not_true, Bool.and_true, Bool.true_and, Bool.and_false, Bool.or_false, Bool.false_or, Bool.false_and, Bool.true_or, Bool.or_true, addG_int, subI_int, eqG_int, neG_int, eqG_bl, neG_bl, cmpI_int, intG, lenG, absG, List.length_cons, sizeLine_eq, Nat.reduceLeDiff, Nat.reduceLT, Nat.zero_le, Nat.zero_add, List.length_nil, Nat.reduceAdd, beq_self_eq_true, Nat.reduceBEq, reduceCtorEq, Nat.reduceEqDiff, bd_ok, bd_bad, bd_err, x_nopS, x_badS, x_bkS, x_ctS, x_ifM, x_ifS, x_dropS, x_retS, x_retR_v, x_retR_fr, x_retR_al, x_retN, x_setS, x_setR_v, x_setR_fr, x_setR_al, x_varM, x_litM, x_liftO_v, x_liftO_fr, x_liftO_n, x_bin2, x_peek2, x_un1, x_asB, x_toB, x_andM, x_orM, x_notM, x_andV, x_orV, x_notV, x_nilA, x_consA, x_nilV, x_consV, x_tupM, x_lstM, x_callM, x_toV, x_toP, x_toPr_v, x_toPr_fr, x_toPr_al, callR_ok, x_callF, x_isaM, x_chainM, x_noPartM, x_partM, x_sliceM, x_setIx, x_mutM, x_mutK, x_par2, x_par3, x_asgS, x_setD, x_tupG, x_consG, x_nilG, x_seqN, x_enumN, x_seqV, x_enumI, x_zipI, x_rng1, x_rng2, x_sortSetM, x_rgM, kt_NoneType_int, kt_NoneType_bool, kt_NoneType_str, kt_NoneType_tuple, kt_NoneType_list, kt_NoneType_dict, kt_bool_int, kt_bool_bool, kt_bool_str, kt_bool_tuple, kt_bool_list, kt_bool_dict, kt_int_int, kt_int_bool, kt_int_str, kt_int_tuple, kt_int_list, kt_int_dict, kt_str_int, kt_str_bool, kt_str_str, kt_str_tuple, kt_str_list, kt_str_dict, kt_tuple_int, kt_tuple_bool, kt_tuple_str, kt_tuple_tuple, kt_tuple_list, kt_tuple_dict, kt_list_int, kt_list_bool, kt_list_str, kt_list_tuple, kt_list_list, kt_list_dict, Int.reduceLE, Int.reduceSub, Int.reduceToNat, Int.reduceNeg, and_self, true_and, and_true, isG, Fw.isNon]
  | bl b => unfold fnD b__law_is; simp only [x_free0, x_freeS, free1_v, free1_no, free1_own, peek, peekL, thaw, argSls, argSl, als, nodup?, putBack, stepBack, tyOf, mutK, shOk, plainR, outs, x_seqS, List.replicate, List.append_nil, List.nil_append, List.cons_append, List.getElem?_cons_zero, List.getElem?_cons_succ, List.set_cons_zero, List.set_cons_succ, if_true, Bool.false_eq_true, if_false, reduceIte, List.contains_nil, List.contains_cons, Bool.not_false, Bool.not_true, Bool.and_true, Bool.true_and, Bool.and_false, Bool.or_false, Bool.false_or, Bool.false_and, Bool.true_or, Bool.or_true, addG_int, subI_int, eqG_int, neG_int, eqG_bl, neG_bl, cmpI_int, intG, lenG, absG, List.length_cons, sizeLine_eq, Nat.reduceLeDiff, Nat.reduceLT, Nat.zero_le, Nat.zero_add, List.length_nil, Nat.reduceAdd, beq_self_eq_true, Nat.reduceBEq, reduceCtorEq, Nat.reduceEqDiff, bd_ok, bd_bad, bd_err, x_nopS, x_badS, x_bkS, x_ctS, x_ifM, x_ifS, x_dropS, x_retS, x_retR_v, x_retR_fr, x_retR_al, x_retN, x_setS, x_setR_v, x_setR_fr, x_setR_al, x_varM, x_litM, x_liftO_v, x_liftO_fr, x_liftO_n, x_bin2, x_peek2, x_un1, x_asB, x_toB, x_andM, x_orM, x_notM, x_andV, x_orV, x_notV, x_nilA, x_consA, x_nilV, x_consV, x_tupM, x_lstM, x_callM, x_toV, x_toP, x_toPr_v, x_toPr_fr, x_toPr_al, callR_ok, x_callF, x_isaM, x_chainM, x_noPartM, x_partM, x_sliceM, x_setIx, x_mutM, x_mutK, x_par2, x_par3, x_asgS, x_setD, x_tupG, x_consG, x_nilG, x_seqN, x_enumN, x_seqV, x_enumI, x_zipI, x_rng1, x_rng2, x_sortSetM, x_rgM, kt_NoneType_int, kt_NoneType_bool, kt_NoneType_str, kt_NoneType_tuple, kt_NoneType_list, kt_NoneType_dict, kt_bool_int, kt_bool_bool, kt_bool_str, kt_bool_tuple, kt_bool_list, kt_bool_dict, kt_int_int, kt_int_bool, kt_int_str, kt_int_tuple, kt_int_list, kt_int_dict, kt_str_int, kt_str_bool, kt_str_str, kt_str_tuple, kt_str_list, kt_str_dict, kt_tuple_int, kt_tuple_bool, kt_tuple_str, kt_tuple_tuple, kt_tuple_list, kt_tuple_dict, kt_list_int, kt_list_bool, kt_list_str, kt_list_tuple, kt_list_list, kt_list_dict, Int.reduceLE, Int.reduceSub, Int.reduceToNat, Int.reduceNeg, and_self, true_and, and_true, q, isG, Fw.isNon]
  | int i => unfold fnD b__law_is; simp only [x_free0, x_freeS, free1_v, free1_no, free1_own, peek, peekL, thaw, argSls, argSl, als, nodup?, putBack, stepBack, tyOf, mutK, shOk, plainR, outs, x_seqS, List.replicate, List.append_nil, List.nil_append, List.cons_append, List.getElem?_cons_zero, List.getElem?_cons_succ, List.set_cons_zero, List.set_cons_succ, if_true, Bool.false_eq_true, if_false, reduceIte, List.contains_nil, List.contains_cons, Bool.not_false, Bool.not_true, Bool.and_true, Bool.true_and, Bool.and_false, Bool.or_false, Bool.false_or, Bool.false_and, Bool.true_or, Bool.or_true, addG_int, subI_int, eqG_int, neG_int, eqG_bl, neG_bl, cmpI_int, intG, lenG, absG, List.length_cons, sizeLine_eq, Nat.reduceLeDiff, Nat.reduceLT, Nat.zero_le, Nat.zero_add, List.length_nil, Nat.reduceAdd, beq_self_eq_true, Nat.reduceBEq, reduceCtorEq, Nat.reduceEqDiff, bd_ok, bd_bad, bd_err, x_nopS, x_badS, x_bkS, x_ctS, x_ifM, x_ifS, x_dropS, x_retS, x_retR_v, x_retR_fr, x_retR_al, x_retN, x_setS, x_setR_v, x_setR_fr, x_setR_al, x_varM, x_litM, x_liftO_v, x_liftO_fr, x_liftO_n, x_bin2, x_peek2, x_un1, x_asB, x_toB, x_andM, x_orM, x_notM, x_andV, x_orV, x_notV, x_nilA, x_consA, x_nilV, x_consV, x_tupM, x_lstM, x_callM, x_toV, x_toP, x_toPr_v, x_toPr_fr, x_toPr_al, callR_ok, x_callF, x_isaM, x_chainM, x_noPartM, x_partM, x_sliceM, x_setIx, x_mutM, x_mutK, x_par2, x_par3, x_asgS, x_setD, x_tupG, x_consG, x_nilG, x_seqN, x_enumN, x_seqV, x_enumI, x_zipI, x_rng1, x_rng2, x_sortSetM, x_rgM, kt_NoneType_int, kt_NoneType_bool, kt_NoneType_str, kt_NoneType_tuple, kt_NoneType_list, kt_NoneType_dict, kt_bool_int, kt_bool_bool, kt_bool_str, kt_bool_tuple, kt_bool_list, kt_bool_dict, kt_int_int, kt_int_bool, kt_int_str, kt_int_tuple, kt_int_list, kt_int_dict, kt_str_int, kt_str_bool, kt_str_str, kt_str_tuple, kt_str_list, kt_str_dict, kt_tuple_int, kt_tuple_bool, kt_tuple_str, kt_tuple_tuple, kt_tuple_list, kt_tuple_dict, kt_list_int, kt_list_bool, kt_list_str, kt_list_tuple, kt_list_list, kt_list_dict, Int.reduceLE, Int.reduceSub, Int.reduceToNat, Int.reduceNeg, and_self, true_and, and_true, q, isG, Fw.isNon]
  | str s => unfold fnD b__law_is; simp only [x_free0, x_freeS, free1_v, free1_no, free1_own, peek, peekL, thaw, argSls, argSl, als, nodup?, putBack, stepBack, tyOf, mutK, shOk, plainR, outs, x_seqS, List.replicate, List.append_nil, List.nil_append, List.cons_append, List.getElem?_cons_zero, List.getElem?_cons_succ, List.set_cons_zero, List.set_cons_succ, if_true, Bool.false_eq_true, if_false, reduceIte, List.contains_nil, List.contains_cons, Bool.not_false, Bool.not_true, Bool.and_true, Bool.true_and, Bool.and_false, Bool.or_false, Bool.false_or, Bool.false_and, Bool.true_or, Bool.or_true, addG_int, subI_int, eqG_int, neG_int, eqG_bl, neG_bl, cmpI_int, intG, lenG, absG, List.length_cons, sizeLine_eq, Nat.reduceLeDiff, Nat.reduceLT, Nat.zero_le, Nat.zero_add, List.length_nil, Nat.reduceAdd, beq_self_eq_true, Nat.reduceBEq, reduceCtorEq, Nat.reduceEqDiff, bd_ok, bd_bad, bd_err, x_nopS, x_badS, x_bkS, x_ctS, x_ifM, x_ifS, x_dropS, x_retS, x_retR_v, x_retR_fr, x_retR_al, x_retN, x_setS, x_setR_v, x_setR_fr, x_setR_al, x_varM, x_litM, x_liftO_v, x_liftO_fr, x_liftO_n, x_bin2, x_peek2, x_un1, x_asB, x_toB, x_andM, x_orM, x_notM, x_andV, x_orV, x_notV, x_nilA, x_consA, x_nilV, x_consV, x_tupM, x_lstM, x_callM, x_toV, x_toP, x_toPr_v, x_toPr_fr, x_toPr_al, callR_ok, x_callF, x_isaM, x_chainM, x_noPartM, x_partM, x_sliceM, x_setIx, x_mutM, x_mutK, x_par2, x_par3, x_asgS, x_setD, x_tupG, x_consG, x_nilG, x_seqN, x_enumN, x_seqV, x_enumI, x_zipI, x_rng1, x_rng2, x_sortSetM, x_rgM, kt_NoneType_int, kt_NoneType_bool, kt_NoneType_str, kt_NoneType_tuple, kt_NoneType_list, kt_NoneType_dict, kt_bool_int, kt_bool_bool, kt_bool_str, kt_bool_tuple, kt_bool_list, kt_bool_dict, kt_int_int, kt_int_bool, kt_int_str, kt_int_tuple, kt_int_list, kt_int_dict, kt_str_int, kt_str_bool, kt_str_str, kt_str_tuple, kt_str_list, kt_str_dict, kt_tuple_int, kt_tuple_bool, kt_tuple_str, kt_tuple_tuple, kt_tuple_list, kt_tuple_dict, kt_list_int, kt_list_bool, kt_list_str, kt_list_tuple, kt_list_list, kt_list_dict, Int.reduceLE, Int.reduceSub, Int.reduceToNat, Int.reduceNeg, and_self, true_and, and_true, q, isG, Fw.isNon]
  | dic _ _ => simp [D.fit] at h
  | fn _ => simp [D.fit] at h
termination_by n => n
theorem erase_perm {α : Type} : ∀ (l : List α) (n : Nat) (h : n < l.length), (l[n] :: l.eraseIdx n).Perm l
  | [], _, h => by simp at h
  | x :: l, 0, _ => List.Perm.refl _
  | x :: l, n + 1, h => by
    have ih := erase_perm l n (by simpa using h)
    exact (List.Perm.swap _ _ _).trans (ih.cons x)
theorem fuelW_big : 2 ^ 64 < fuelW := by unfold fuelW; decide
theorem mixed_ok {m : Nat} {hd : D} {ds : List D} (h : HOk m hd) (hb : ds.length < 2 ^ 20) (hm : m + ds.length < 2 ^ 30) :
    ∃ ds' hd', ds'.Perm ds ∧ F__law_mixed [.mu .ref hd, .v (.lst ds)] = .ok (.fr (.lst ds')) [.mu .ref hd', .v (.lst ds)] ∧ HOk (m + ds.length) hd' := by
  have fz := sizeLine_eq
  obtain ⟨en', w1, w2⟩ := whileS_inv (c := (toB (bin2 (cmpI fun i j => decide (i > j)) (callM lenG (consA (varM 2) nilA)) (litM (.int 0))))) (body := (dropS (mutM "list" 3 appendF (consV (toV (mutM "list" 2 popF (consV (toV (callF F__law_draw (consA (varM 0) (consA (toP (callM lenG (consA (varM 2) nilA))) nilA)))) nilV))) nilV))))
    (fun en => ∃ hd' rem found, en = [.mu .ref hd', .v (.lst ds), .mu .own (.lst rem), .mu .own (.lst found)] ∧ (rem ++ found).Perm ds ∧ HOk (m + found.length) hd')
    (fun en => match en with
      | [_, _, .mu _ (.lst rem), _] => rem.length
      | _ => 0)
    (fun en => ∃ hd' found, en = [.mu .ref hd', .v (.lst ds), .mu .own (.lst []), .mu .own (.lst found)] ∧ found.Perm ds ∧ HOk (m + ds.length) hd') (fun en ⟨hd', rem, found, e, p, k⟩ => by
      subst e
      have hlen : rem.length + found.length = ds.length := by rw [← List.length_append]; exact p.length_eq
      cases rem with
      | nil =>
        refine .inl ⟨_, ?_, hd', found, rfl, by simpa using p, by rw [← hlen]; simpa using k⟩
        simp only [x_free0, x_freeS, free1_v, free1_no, free1_own, peek, peekL, thaw, argSls, argSl, als, nodup?, putBack, stepBack, tyOf, mutK, shOk, plainR, outs, x_seqS, List.replicate, List.append_nil, List.nil_append, List.cons_append, List.getElem?_cons_zero, List.getElem?_cons_succ, List.set_cons_zero, List.set_cons_succ, if_true, Bool.false_eq_true, if_false, reduceIte, List.contains_nil, List.contains_cons, Bool.not_false, Bool.not_true, Bool.and_true, Bool.true_and, Bool.and_false, Bool.or_false, Bool.false_or, Bool.false_and, Bool.true_or, Bool.or_true, addG_int, subI_int, eqG_int, neG_int, eqG_bl, neG_bl, cmpI_int, intG, lenG, absG, List.length_cons, sizeLine_eq, Nat.reduceLeDiff, Nat.reduceLT, Nat.zero_le, Nat.zero_add, List.length_nil, Nat.reduceAdd, beq_self_eq_true, Nat.reduceBEq, reduceCtorEq, Nat.reduceEqDiff, bd_ok, bd_bad, bd_err, x_nopS, x_badS, x_bkS, x_ctS, x_ifM, x_ifS, x_dropS, x_retS, x_retR_v, x_retR_fr, x_retR_al, x_retN, x_setS, x_setR_v, x_setR_fr, x_setR_al, x_varM, x_litM, x_liftO_v, x_liftO_fr, x_liftO_n, x_bin2, x_peek2, x_un1, x_asB, x_toB, x_andM, x_orM, x_notM, x_andV, x_orV, x_notV, x_nilA, x_consA, x_nilV, x_consV, x_tupM, x_lstM, x_callM, x_toV, x_toP, x_toPr_v, x_toPr_fr, x_toPr_al, callR_ok, x_callF, x_isaM, x_chainM, x_noPartM, x_partM, x_sliceM, x_setIx, x_mutM, x_mutK, x_par2, x_par3, x_asgS, x_setD, x_tupG, x_consG, x_nilG, x_seqN, x_enumN, x_seqV, x_enumI, x_zipI, x_rng1, x_rng2, x_sortSetM, x_rgM, kt_NoneType_int, kt_NoneType_bool, kt_NoneType_str, kt_NoneType_tuple, kt_NoneType_list, kt_NoneType_dict, kt_bool_int, kt_bool_bool, kt_bool_str, kt_bool_tuple, kt_bool_list, kt_bool_dict, kt_int_int, kt_int_bool, kt_int_str, kt_int_tuple, kt_int_list, kt_int_dict, kt_str_int, kt_str_bool, kt_str_str, kt_str_tuple, kt_str_list, kt_str_dict, kt_tuple_int, kt_tuple_bool, kt_tuple_str, kt_tuple_tuple, kt_tuple_list, kt_tuple_dict, kt_list_int, kt_list_bool, kt_list_str, kt_list_tuple, kt_list_list, kt_list_dict, Int.reduceLE, Int.reduceSub, Int.reduceToNat, Int.reduceNeg, and_self, true_and, and_true, Int.natCast_zero, gt_iff_lt, Int.lt_irrefl, decide_false]
      | cons x r =>
        obtain ⟨q, hd2, e, q1, q2, k2⟩ := draw_ok (lim := ((x :: r).length : Int)) k (by simp at hlen; omega) (by rw [List.length_cons]; omega) (small_len (by rw [List.length_cons] at hlen ⊢; omega))
        obtain ⟨n, rfl⟩ : ∃ n : Nat, q = n := ⟨q.toNat, by omega⟩
        have hn : n < (x :: r).length := by omega
        have pop : popF (.lst (x :: r)) [.int (n : Int)] = some (.lst ((x :: r).eraseIdx n), (x :: r)[n]) := by
          show (ixN (x :: r).length (n : Int)).bind _ = _
          rw [ixN_nat hn]
          simp only [Option.bind, List.getElem?_eq_getElem hn, Option.map]
        have app : ∀ d, appendF (.lst found) [d] = some (.lst (found ++ [d]), .non) := fun d => by
          show (if found.length < sizeLine then _ else _) = _
          rw [if_pos (by simp at hlen; rw [fz]; omega)]
        have t1 : decide (((x :: r).length : Int) > 0) = true := decide_eq_true (by rw [List.length_cons]; omega)
        refine .inr ⟨[.mu .ref hd', .v (.lst ds), .mu .own (.lst (x :: r)), .mu .own (.lst found)], [.mu .ref hd2, .v (.lst ds), .mu .own (.lst ((x :: r).eraseIdx n)), .mu .own (.lst (found ++ [(x :: r)[n]]))], ?_, ?_, ⟨hd2, _, _, rfl, ?_, by rw [List.length_append]; exact k2⟩, ?_⟩
        · have t1 : decide ((↑(r.length + 1) : Int) > 0) = true := t1
          simp only [x_free0, x_freeS, free1_v, free1_no, free1_own, peek, peekL, thaw, argSls, argSl, als, nodup?, putBack, stepBack, tyOf, mutK, shOk, plainR, outs, x_seqS, List.replicate, List.append_nil, List.nil_append, List.cons_append, List.getElem?_cons_zero, List.getElem?_cons_succ, List.set_cons_zero, List.set_cons_succ, if_true, Bool.false_eq_true, if_false, reduceIte, List.contains_nil, List.contains_cons, Bool.not_false, Bool.not_true, Bool.and_true, Bool.true_and, Bool.and_false, Bool.or_false, Bool.false_or, Bool.false_and, Bool.true_or, Bool.or_true, addG_int, subI_int, eqG_int, neG_int, eqG_bl, neG_bl, cmpI_int, intG, lenG, absG, List.length_cons, sizeLine_eq, Nat.reduceLeDiff, Nat.reduceLT, Nat.zero_le, Nat.zero_add, List.length_nil, Nat.reduceAdd, beq_self_eq_true, Nat.reduceBEq, reduceCtorEq, Nat.reduceEqDiff, bd_ok, bd_bad, bd_err, x_nopS, x_badS, x_bkS, x_ctS, x_ifM, x_ifS, x_dropS, x_retS, x_retR_v, x_retR_fr, x_retR_al, x_retN, x_setS, x_setR_v, x_setR_fr, x_setR_al, x_varM, x_litM, x_liftO_v, x_liftO_fr, x_liftO_n, x_bin2, x_peek2, x_un1, x_asB, x_toB, x_andM, x_orM, x_notM, x_andV, x_orV, x_notV, x_nilA, x_consA, x_nilV, x_consV, x_tupM, x_lstM, x_callM, x_toV, x_toP, x_toPr_v, x_toPr_fr, x_toPr_al, callR_ok, x_callF, x_isaM, x_chainM, x_noPartM, x_partM, x_sliceM, x_setIx, x_mutM, x_mutK, x_par2, x_par3, x_asgS, x_setD, x_tupG, x_consG, x_nilG, x_seqN, x_enumN, x_seqV, x_enumI, x_zipI, x_rng1, x_rng2, x_sortSetM, x_rgM, kt_NoneType_int, kt_NoneType_bool, kt_NoneType_str, kt_NoneType_tuple, kt_NoneType_list, kt_NoneType_dict, kt_bool_int, kt_bool_bool, kt_bool_str, kt_bool_tuple, kt_bool_list, kt_bool_dict, kt_int_int, kt_int_bool, kt_int_str, kt_int_tuple, kt_int_list, kt_int_dict, kt_str_int, kt_str_bool, kt_str_str, kt_str_tuple, kt_str_list, kt_str_dict, kt_tuple_int, kt_tuple_bool, kt_tuple_str, kt_tuple_tuple, kt_tuple_list, kt_tuple_dict, kt_list_int, kt_list_bool, kt_list_str, kt_list_tuple, kt_list_list, kt_list_dict, Int.reduceLE, Int.reduceSub, Int.reduceToNat, Int.reduceNeg, and_self, true_and, and_true, t1]
        · have e : F__law_draw [.mu .ref hd', .v (.int (↑(r.length + 1) : Int))] = .ok (.v (.int (n : Int))) [.mu .ref hd2, .v (.int (↑(r.length + 1) : Int))] := e
          simp only [x_free0, x_freeS, free1_v, free1_no, free1_own, peek, peekL, thaw, argSls, argSl, als, nodup?, putBack, stepBack, tyOf, mutK, shOk, plainR, outs, x_seqS, List.replicate, List.append_nil, List.nil_append, List.cons_append, List.getElem?_cons_zero, List.getElem?_cons_succ, List.set_cons_zero, List.set_cons_succ, if_true, Bool.false_eq_true, if_false, reduceIte, List.contains_nil, List.contains_cons, Bool.not_false, Bool.not_true, Bool.and_true, Bool.true_and, Bool.and_false, Bool.or_false, Bool.false_or, Bool.false_and, Bool.true_or, Bool.or_true, addG_int, subI_int, eqG_int, neG_int, eqG_bl, neG_bl, cmpI_int, intG, lenG, absG, List.length_cons, sizeLine_eq, Nat.reduceLeDiff, Nat.reduceLT, Nat.zero_le, Nat.zero_add, List.length_nil, Nat.reduceAdd, beq_self_eq_true, Nat.reduceBEq, reduceCtorEq, Nat.reduceEqDiff, bd_ok, bd_bad, bd_err, x_nopS, x_badS, x_bkS, x_ctS, x_ifM, x_ifS, x_dropS, x_retS, x_retR_v, x_retR_fr, x_retR_al, x_retN, x_setS, x_setR_v, x_setR_fr, x_setR_al, x_varM, x_litM, x_liftO_v, x_liftO_fr, x_liftO_n, x_bin2, x_peek2, x_un1, x_asB, x_toB, x_andM, x_orM, x_notM, x_andV, x_orV, x_notV, x_nilA, x_consA, x_nilV, x_consV, x_tupM, x_lstM, x_callM, x_toV, x_toP, x_toPr_v, x_toPr_fr, x_toPr_al, callR_ok, x_callF, x_isaM, x_chainM, x_noPartM, x_partM, x_sliceM, x_setIx, x_mutM, x_mutK, x_par2, x_par3, x_asgS, x_setD, x_tupG, x_consG, x_nilG, x_seqN, x_enumN, x_seqV, x_enumI, x_zipI, x_rng1, x_rng2, x_sortSetM, x_rgM, kt_NoneType_int, kt_NoneType_bool, kt_NoneType_str, kt_NoneType_tuple, kt_NoneType_list, kt_NoneType_dict, kt_bool_int, kt_bool_bool, kt_bool_str, kt_bool_tuple, kt_bool_list, kt_bool_dict, kt_int_int, kt_int_bool, kt_int_str, kt_int_tuple, kt_int_list, kt_int_dict, kt_str_int, kt_str_bool, kt_str_str, kt_str_tuple, kt_str_list, kt_str_dict, kt_tuple_int, kt_tuple_bool, kt_tuple_str, kt_tuple_tuple, kt_tuple_list, kt_tuple_dict, kt_list_int, kt_list_bool, kt_list_str, kt_list_tuple, kt_list_list, kt_list_dict, Int.reduceLE, Int.reduceSub, Int.reduceToNat, Int.reduceNeg, and_self, true_and, and_true, e, pop, app, BEq.rfl]
        · refine List.Perm.trans ?_ p
          have := List.perm_append_comm (l₁ := [(x :: r)[n]]) (l₂ := (x :: r).eraseIdx n)
          have h2 : ((x :: r)[n] :: (x :: r).eraseIdx n).Perm (x :: r) := erase_perm _ _ hn
          calc ((x :: r).eraseIdx n ++ (found ++ [(x :: r)[n]])).Perm ((x :: r).eraseIdx n ++ ([(x :: r)[n]] ++ found)) := List.Perm.append_left _ List.perm_append_comm
            _ = ((x :: r).eraseIdx n ++ [(x :: r)[n]]) ++ found := by rw [List.append_assoc]
            List.Perm _ (((x :: r)[n] :: (x :: r).eraseIdx n) ++ found) := List.Perm.append_right _ this.symm
            List.Perm _ ((x :: r) ++ found) := List.Perm.append_right _ h2
        · simp only [List.length_eraseIdx, if_pos hn]
          omega) fuelW [.mu .ref hd, .v (.lst ds), .mu .own (.lst ds), .mu .own (.lst [])] (by have := fuelW_big; simp only; omega) ⟨hd, ds, [], rfl, by simp, by simpa using h⟩
  obtain ⟨hd', found, rfl, p, k⟩ := w2
  refine ⟨found, hd', p, ?_, k⟩
  unfold F__law_mixed fnD b__law_mixed
  simp only [x_free0, x_freeS, free1_v, free1_no, free1_own, peek, peekL, thaw, argSls, argSl, als, nodup?, putBack, stepBack, tyOf, mutK, shOk, plainR, outs, x_seqS, List.replicate, List.append_nil, List.nil_append, List.cons_append, List.getElem?_cons_zero, List.getElem?_cons_succ, List.set_cons_zero, List.set_cons_succ, if_true, Bool.false_eq_true, if_false, reduceIte, List.contains_nil, List.contains_cons, Bool.not_false, Bool.not_true, Bool.and_true, Bool.true_and, Bool.and_false, Bool.or_false, Bool.false_or, Bool.false_and, Bool.true_or, Bool.or_true, addG_int, subI_int, eqG_int, neG_int, eqG_bl, neG_bl, cmpI_int, intG, lenG, absG, List.length_cons, sizeLine_eq, Nat.reduceLeDiff, Nat.reduceLT, Nat.zero_le, Nat.zero_add, List.length_nil, Nat.reduceAdd, beq_self_eq_true, Nat.reduceBEq, reduceCtorEq, Nat.reduceEqDiff, bd_ok, bd_bad, bd_err, x_nopS, x_badS, x_bkS, x_ctS, x_ifM, x_ifS, x_dropS, x_retS, x_retR_v, x_retR_fr, x_retR_al, x_retN, x_setS, x_setR_v, x_setR_fr, x_setR_al, x_varM, x_litM, x_liftO_v, x_liftO_fr, x_liftO_n, x_bin2, x_peek2, x_un1, x_asB, x_toB, x_andM, x_orM, x_notM, x_andV, x_orV, x_notV, x_nilA, x_consA, x_nilV, x_consV, x_tupM, x_lstM, x_callM, x_toV, x_toP, x_toPr_v, x_toPr_fr, x_toPr_al, callR_ok, x_callF, x_isaM, x_chainM, x_noPartM, x_partM, x_sliceM, x_setIx, x_mutM, x_mutK, x_par2, x_par3, x_asgS, x_setD, x_tupG, x_consG, x_nilG, x_seqN, x_enumN, x_seqV, x_enumI, x_zipI, x_rng1, x_rng2, x_sortSetM, x_rgM, kt_NoneType_int, kt_NoneType_bool, kt_NoneType_str, kt_NoneType_tuple, kt_NoneType_list, kt_NoneType_dict, kt_bool_int, kt_bool_bool, kt_bool_str, kt_bool_tuple, kt_bool_list, kt_bool_dict, kt_int_int, kt_int_bool, kt_int_str, kt_int_tuple, kt_int_list, kt_int_dict, kt_str_int, kt_str_bool, kt_str_str, kt_str_tuple, kt_str_list, kt_str_dict, kt_tuple_int, kt_tuple_bool, kt_tuple_str, kt_tuple_tuple, kt_tuple_list, kt_tuple_dict, kt_list_int, kt_list_bool, kt_list_str, kt_list_tuple, kt_list_list, kt_list_dict, Int.reduceLE, Int.reduceSub, Int.reduceToNat, Int.reduceNeg, and_self, true_and, and_true, listG, w1]
end K59
set_option linter.all false
set_option maxRecDepth 100000
set_option maxHeartbeats 4000000
namespace K59
open PySem PySem.Spec PyProof.Rows L2 Fw
inductive Kd where
  | hv | ei | on
def Kd.str : Kd → Str
  | .hv => "heavy"
  | .ei => "either"
  | .on => "or none"
abbrev Cs := Option (Int × Int)
def encC : Cs → D
  | none => .non
  | some (c, s) => .tup [.int c, .int s]
def two (c : Int) : List Cs := [some (c, -1), some (c, 1)]
def rg (n : Nat) : List Int := (List.range n).map fun (k : Nat) => (k : Int)
def casesL (n : Nat) : Kd → List Cs
  | .hv => (rg n).map fun c => some (c, 1)
  | .ei => (rg n).flatMap two
  | .on => none :: (rg n).flatMap two
abbrev Wg := List Int × List Int
def encW (w : Wg) : D := .tup [.tup (intL w.1), .tup (intL w.2)]
def tells (w : Wg) : Cs → Int
  | none => 0
  | some (c, s) => if c ∈ w.1 then s else if c ∈ w.2 then 0 - s else 0
structure WOk (n : Nat) (w : Wg) : Prop where
  a1 : ∀ x ∈ w.1, 0 ≤ x ∧ x ≤ n - 1
  a2 : ∀ x ∈ w.2, 0 ≤ x ∧ x ≤ n - 1
  s1 : w.1.Pairwise (· < ·)
  s2 : w.2.Pairwise (· < ·)
  p1 : 0 < w.1.length
  p2 : 0 < w.2.length
  le : w.1.length = w.2.length
  dj : ∀ x ∈ w.1, x ∉ w.2
theorem kd_heavy (k : Kd) : eqG (.str k.str) (.str "heavy") = some (.v (.bl (match k with | .hv => true | _ => false))) := by
  cases k <;> (show (if PyData.strOk _ && PyData.strOk _ then _ else _) = _) <;> rw [show (PyData.strOk _ && PyData.strOk _) = true by decide +kernel, if_pos rfl] <;> rfl
theorem kd_none (k : Kd) : eqG (.str k.str) (.str "or none") = some (.v (.bl (match k with | .on => true | _ => false))) := by
  cases k <;> (show (if PyData.strOk _ && PyData.strOk _ then _ else _) = _) <;> rw [show (PyData.strOk _ && PyData.strOk _) = true by decide +kernel, if_pos rfl] <;> rfl
theorem kd_heavy2 (k : Kd) : neG (.str k.str) (.str "heavy") = some (.v (.bl (match k with | .hv => false | _ => true))) := by
  cases k <;> (show (if PyData.strOk _ && PyData.strOk _ then _ else _) = _) <;> rw [show (PyData.strOk _ && PyData.strOk _) = true by decide +kernel, if_pos rfl] <;> rfl
theorem kd_in (k : Kd) : ninG (.str k.str) (.tup [.str "heavy", .str "either", .str "or none"]) = some (.v (.bl false)) := by
  cases k <;> (show (if _ then _ else _) = _) <;> rw [if_pos (by decide +kernel)] <;> rfl
theorem within_int (i l h : Int) : F_is_within [.v (.int i), .v (.int l), .v (.int h)] = .ok (.v (.bl (decide (l ≤ i) && decide (i ≤ h)))) [.v (.int i), .v (.int l), .v (.int h)] := by
  have hi : F_is_integer [.v (.int i)] = .ok (.v (.bl true)) [.v (.int i)] := by unfold F_is_integer fnD b_is_integer; simp only [x_free0, x_freeS, free1_v, free1_no, free1_own, peek, peekL, thaw, argSls, argSl, als, nodup?, putBack, stepBack, tyOf, mutK, shOk, plainR, outs, x_seqS, List.replicate, List.append_nil, List.nil_append, List.cons_append, List.getElem?_cons_zero, List.getElem?_cons_succ, List.set_cons_zero, List.set_cons_succ, if_true, Bool.false_eq_true, if_false, reduceIte, List.contains_nil, List.contains_cons, Bool.not_false, Bool.not_true, Bool.and_true, Bool.true_and, Bool.and_false, Bool.or_false, Bool.false_or, Bool.false_and, Bool.true_or, Bool.or_true, addG_int, subI_int, eqG_int, neG_int, eqG_bl, neG_bl, cmpI_int, intG, lenG, absG, List.length_cons, sizeLine_eq, Nat.reduceLeDiff, Nat.reduceLT, Nat.zero_le, Nat.zero_add, List.length_nil, Nat.reduceAdd, beq_self_eq_true, Nat.reduceBEq, reduceCtorEq, Nat.reduceEqDiff, bd_ok, bd_bad, bd_err, x_nopS, x_badS, x_bkS, x_ctS, x_ifM, x_ifS, x_dropS, x_retS, x_retR_v, x_retR_fr, x_retR_al, x_retN, x_setS, x_setR_v, x_setR_fr, x_setR_al, x_varM, x_litM, x_liftO_v, x_liftO_fr, x_liftO_n, x_bin2, x_peek2, x_un1, x_asB, x_toB, x_andM, x_orM, x_notM, x_andV, x_orV, x_notV, x_nilA, x_consA, x_nilV, x_consV, x_tupM, x_lstM, x_callM, x_toV, x_toP, x_toPr_v, x_toPr_fr, x_toPr_al, callR_ok, x_callF, x_isaM, x_chainM, x_noPartM, x_partM, x_sliceM, x_setIx, x_mutM, x_mutK, x_par2, x_par3, x_asgS, x_setD, x_tupG, x_consG, x_nilG, x_seqN, x_enumN, x_seqV, x_enumI, x_zipI, x_rng1, x_rng2, x_sortSetM, x_rgM, kt_NoneType_int, kt_NoneType_bool, kt_NoneType_str, kt_NoneType_tuple, kt_NoneType_list, kt_NoneType_dict, kt_bool_int, kt_bool_bool, kt_bool_str, kt_bool_tuple, kt_bool_list, kt_bool_dict, kt_int_int, kt_int_bool, kt_int_str, kt_int_tuple, kt_int_list, kt_int_dict, kt_str_int, kt_str_bool, kt_str_str, kt_str_tuple, kt_str_list, kt_str_dict, kt_tuple_int, kt_tuple_bool, kt_tuple_str, kt_tuple_tuple, kt_tuple_list, kt_tuple_dict, kt_list_int, kt_list_bool, kt_list_str, kt_list_tuple, kt_list_list, kt_list_dict, Int.reduceLE, Int.reduceSub, Int.reduceToNat, Int.reduceNeg, and_self, true_and, and_true]
  unfold F_is_within fnD b_is_within
  by_cases h1 : l ≤ i
  · simp only [x_free0, x_freeS, free1_v, free1_no, free1_own, peek, peekL, thaw, argSls, argSl, als, nodup?, putBack, stepBack, tyOf, mutK, shOk, plainR, outs, x_seqS, List.replicate, List.append_nil, List.nil_append, List.cons_append, List.getElem?_cons_zero, List.getElem?_cons_succ, List.set_cons_zero, List.set_cons_succ, if_true, Bool.false_eq_true, if_false, reduceIte, List.contains_nil, List.contains_cons, Bool.not_false, Bool.not_true, Bool.and_true, Bool.true_and, Bool.and_false, Bool.or_false, Bool.false_or, Bool.false_and, Bool.true_or, Bool.or_true, addG_int, subI_int, eqG_int, neG_int, eqG_bl, neG_bl, cmpI_int, intG, lenG, absG, List.length_cons, sizeLine_eq, Nat.reduceLeDiff, Nat.reduceLT, Nat.zero_le, Nat.zero_add, List.length_nil, Nat.reduceAdd, beq_self_eq_true, Nat.reduceBEq, reduceCtorEq, Nat.reduceEqDiff, bd_ok, bd_bad, bd_err, x_nopS, x_badS, x_bkS, x_ctS, x_ifM, x_ifS, x_dropS, x_retS, x_retR_v, x_retR_fr, x_retR_al, x_retN, x_setS, x_setR_v, x_setR_fr, x_setR_al, x_varM, x_litM, x_liftO_v, x_liftO_fr, x_liftO_n, x_bin2, x_peek2, x_un1, x_asB, x_toB, x_andM, x_orM, x_notM, x_andV, x_orV, x_notV, x_nilA, x_consA, x_nilV, x_consV, x_tupM, x_lstM, x_callM, x_toV, x_toP, x_toPr_v, x_toPr_fr, x_toPr_al, callR_ok, x_callF, x_isaM, x_chainM, x_noPartM, x_partM, x_sliceM, x_setIx, x_mutM, x_mutK, x_par2, x_par3, x_asgS, x_setD, x_tupG, x_consG, x_nilG, x_seqN, x_enumN, x_seqV, x_enumI, x_zipI, x_rng1, x_rng2, x_sortSetM, x_rgM, kt_NoneType_int, kt_NoneType_bool, kt_NoneType_str, kt_NoneType_tuple, kt_NoneType_list, kt_NoneType_dict, kt_bool_int, kt_bool_bool, kt_bool_str, kt_bool_tuple, kt_bool_list, kt_bool_dict, kt_int_int, kt_int_bool, kt_int_str, kt_int_tuple, kt_int_list, kt_int_dict, kt_str_int, kt_str_bool, kt_str_str, kt_str_tuple, kt_str_list, kt_str_dict, kt_tuple_int, kt_tuple_bool, kt_tuple_str, kt_tuple_tuple, kt_tuple_list, kt_tuple_dict, kt_list_int, kt_list_bool, kt_list_str, kt_list_tuple, kt_list_list, kt_list_dict, Int.reduceLE, Int.reduceSub, Int.reduceToNat, Int.reduceNeg, and_self, true_and, and_true, hi, h1, decide_true]
  · simp only [x_free0, x_freeS, free1_v, free1_no, free1_own, peek, peekL, thaw, argSls, argSl, als, nodup?, putBack, stepBack, tyOf, mutK, shOk, plainR, outs, x_seqS, List.replicate, List.append_nil, List.nil_append, List.cons_append, List.getElem?_cons_zero, List.getElem?_cons_succ, List.set_cons_zero, List.set_cons_succ, if_true, Bool.false_eq_true, if_false, reduceIte, List.contains_nil, List.contains_cons, Bool.not_false, Bool.not_true, Bool.and_true, Bool.true_and, Bool.and_false, Bool.or_false, Bool.false_or, Bool.false_and, Bool.true_or, Bool.or_true, addG_int, subI_int, eqG_int, neG_int, eqG_bl, neG_bl, cmpI_int, intG, lenG, absG, List.length_cons, sizeLine_eq, Nat.reduceLeDiff, Nat.reduceLT, Nat.zero_le, Nat.zero_add, List.length_nil, Nat.reduceAdd, beq_self_eq_true, Nat.reduceBEq, reduceCtorEq, Nat.reduceEqDiff, bd_ok, bd_bad, bd_err, x_nopS, x_badS, x_bkS, x_ctS, x_ifM, x_ifS, x_dropS, x_retS, x_retR_v, x_retR_fr, x_retR_al, x_retN, x_setS, x_setR_v, x_setR_fr, x_setR_al, x_varM, x_litM, x_liftO_v, x_liftO_fr, x_liftO_n, x_bin2, x_peek2, x_un1, x_asB, x_toB, x_andM, x_orM, x_notM, x_andV, x_orV, x_notV, x_nilA, x_consA, x_nilV, x_consV, x_tupM, x_lstM, x_callM, x_toV, x_toP, x_toPr_v, x_toPr_fr, x_toPr_al, callR_ok, x_callF, x_isaM, x_chainM, x_noPartM, x_partM, x_sliceM, x_setIx, x_mutM, x_mutK, x_par2, x_par3, x_asgS, x_setD, x_tupG, x_consG, x_nilG, x_seqN, x_enumN, x_seqV, x_enumI, x_zipI, x_rng1, x_rng2, x_sortSetM, x_rgM, kt_NoneType_int, kt_NoneType_bool, kt_NoneType_str, kt_NoneType_tuple, kt_NoneType_list, kt_NoneType_dict, kt_bool_int, kt_bool_bool, kt_bool_str, kt_bool_tuple, kt_bool_list, kt_bool_dict, kt_int_int, kt_int_bool, kt_int_str, kt_int_tuple, kt_int_list, kt_int_dict, kt_str_int, kt_str_bool, kt_str_str, kt_str_tuple, kt_str_list, kt_str_dict, kt_tuple_int, kt_tuple_bool, kt_tuple_str, kt_tuple_tuple, kt_tuple_list, kt_tuple_dict, kt_list_int, kt_list_bool, kt_list_str, kt_list_tuple, kt_list_list, kt_list_dict, Int.reduceLE, Int.reduceSub, Int.reduceToNat, Int.reduceNeg, and_self, true_and, and_true, hi, h1, decide_false]
theorem tuple_ok (ds : List D) (a b : Int) (h1 : a ≤ ds.length) (h2 : (ds.length : Int) ≤ b) : F_is_tuple [.v (.tup ds), .v (.int a), .v (.int b)] = .ok (.v (.bl true)) [.v (.tup ds), .v (.int a), .v (.int b)] := by
  unfold F_is_tuple fnD b_is_tuple
  simp only [x_free0, x_freeS, free1_v, free1_no, free1_own, peek, peekL, thaw, argSls, argSl, als, nodup?, putBack, stepBack, tyOf, mutK, shOk, plainR, outs, x_seqS, List.replicate, List.append_nil, List.nil_append, List.cons_append, List.getElem?_cons_zero, List.getElem?_cons_succ, List.set_cons_zero, List.set_cons_succ, if_true, Bool.false_eq_true, if_false, reduceIte, List.contains_nil, List.contains_cons, Bool.not_false, Bool.not_true, Bool.and_true, Bool.true_and, Bool.and_false, Bool.or_false, Bool.false_or, Bool.false_and, Bool.true_or, Bool.or_true, addG_int, subI_int, eqG_int, neG_int, eqG_bl, neG_bl, cmpI_int, intG, lenG, absG, List.length_cons, sizeLine_eq, Nat.reduceLeDiff, Nat.reduceLT, Nat.zero_le, Nat.zero_add, List.length_nil, Nat.reduceAdd, beq_self_eq_true, Nat.reduceBEq, reduceCtorEq, Nat.reduceEqDiff, bd_ok, bd_bad, bd_err, x_nopS, x_badS, x_bkS, x_ctS, x_ifM, x_ifS, x_dropS, x_retS, x_retR_v, x_retR_fr, x_retR_al, x_retN, x_setS, x_setR_v, x_setR_fr, x_setR_al, x_varM, x_litM, x_liftO_v, x_liftO_fr, x_liftO_n, x_bin2, x_peek2, x_un1, x_asB, x_toB, x_andM, x_orM, x_notM, x_andV, x_orV, x_notV, x_nilA, x_consA, x_nilV, x_consV, x_tupM, x_lstM, x_callM, x_toV, x_toP, x_toPr_v, x_toPr_fr, x_toPr_al, callR_ok, x_callF, x_isaM, x_chainM, x_noPartM, x_partM, x_sliceM, x_setIx, x_mutM, x_mutK, x_par2, x_par3, x_asgS, x_setD, x_tupG, x_consG, x_nilG, x_seqN, x_enumN, x_seqV, x_enumI, x_zipI, x_rng1, x_rng2, x_sortSetM, x_rgM, kt_NoneType_int, kt_NoneType_bool, kt_NoneType_str, kt_NoneType_tuple, kt_NoneType_list, kt_NoneType_dict, kt_bool_int, kt_bool_bool, kt_bool_str, kt_bool_tuple, kt_bool_list, kt_bool_dict, kt_int_int, kt_int_bool, kt_int_str, kt_int_tuple, kt_int_list, kt_int_dict, kt_str_int, kt_str_bool, kt_str_str, kt_str_tuple, kt_str_list, kt_str_dict, kt_tuple_int, kt_tuple_bool, kt_tuple_str, kt_tuple_tuple, kt_tuple_list, kt_tuple_dict, kt_list_int, kt_list_bool, kt_list_str, kt_list_tuple, kt_list_list, kt_list_dict, Int.reduceLE, Int.reduceSub, Int.reduceToNat, Int.reduceNeg, and_self, true_and, and_true, h1, h2, decide_true]
theorem coins_ok {n : Nat} (h : 1 ≤ n) (h2 : n ≤ 12) : F_check_coins [.v (.int n)] = .ok (.v .non) [.v (.int n)] := by
  have hq := within_int n 1 12
  rw [decide_eq_true (show (1 : Int) ≤ n by omega), decide_eq_true (show (n : Int) ≤ 12 by omega)] at hq
  unfold F_check_coins fnD b_check_coins
  simp only [x_free0, x_freeS, free1_v, free1_no, free1_own, peek, peekL, thaw, argSls, argSl, als, nodup?, putBack, stepBack, tyOf, mutK, shOk, plainR, outs, x_seqS, List.replicate, List.append_nil, List.nil_append, List.cons_append, List.getElem?_cons_zero, List.getElem?_cons_succ, List.set_cons_zero, List.set_cons_succ, if_true, Bool.false_eq_true, if_false, reduceIte, List.contains_nil, List.contains_cons, Bool.not_false, Bool.not_true, Bool.and_true, Bool.true_and, Bool.and_false, Bool.or_false, Bool.false_or, Bool.false_and, Bool.true_or, Bool.or_true, addG_int, subI_int, eqG_int, neG_int, eqG_bl, neG_bl, cmpI_int, intG, lenG, absG, List.length_cons, sizeLine_eq, Nat.reduceLeDiff, Nat.reduceLT, Nat.zero_le, Nat.zero_add, List.length_nil, Nat.reduceAdd, beq_self_eq_true, Nat.reduceBEq, reduceCtorEq, Nat.reduceEqDiff, bd_ok, bd_bad, bd_err, x_nopS, x_badS, x_bkS, x_ctS, x_ifM, x_ifS, x_dropS, x_retS, x_retR_v, x_retR_fr, x_retR_al, x_retN, x_setS, x_setR_v, x_setR_fr, x_setR_al, x_varM, x_litM, x_liftO_v, x_liftO_fr, x_liftO_n, x_bin2, x_peek2, x_un1, x_asB, x_toB, x_andM, x_orM, x_notM, x_andV, x_orV, x_notV, x_nilA, x_consA, x_nilV, x_consV, x_tupM, x_lstM, x_callM, x_toV, x_toP, x_toPr_v, x_toPr_fr, x_toPr_al, callR_ok, x_callF, x_isaM, x_chainM, x_noPartM, x_partM, x_sliceM, x_setIx, x_mutM, x_mutK, x_par2, x_par3, x_asgS, x_setD, x_tupG, x_consG, x_nilG, x_seqN, x_enumN, x_seqV, x_enumI, x_zipI, x_rng1, x_rng2, x_sortSetM, x_rgM, kt_NoneType_int, kt_NoneType_bool, kt_NoneType_str, kt_NoneType_tuple, kt_NoneType_list, kt_NoneType_dict, kt_bool_int, kt_bool_bool, kt_bool_str, kt_bool_tuple, kt_bool_list, kt_bool_dict, kt_int_int, kt_int_bool, kt_int_str, kt_int_tuple, kt_int_list, kt_int_dict, kt_str_int, kt_str_bool, kt_str_str, kt_str_tuple, kt_str_list, kt_str_dict, kt_tuple_int, kt_tuple_bool, kt_tuple_str, kt_tuple_tuple, kt_tuple_list, kt_tuple_dict, kt_list_int, kt_list_bool, kt_list_str, kt_list_tuple, kt_list_list, kt_list_dict, Int.reduceLE, Int.reduceSub, Int.reduceToNat, Int.reduceNeg, and_self, true_and, and_true, hq]
theorem kind_ok (k : Kd) : F_check_kind [.v (.str k.str)] = .ok (.v .non) [.v (.str k.str)] := by
  have h := kd_in k
  unfold F_check_kind fnD b_check_kind
  simp only [x_free0, x_freeS, free1_v, free1_no, free1_own, peek, peekL, thaw, argSls, argSl, als, nodup?, putBack, stepBack, tyOf, mutK, shOk, plainR, outs, x_seqS, List.replicate, List.append_nil, List.nil_append, List.cons_append, List.getElem?_cons_zero, List.getElem?_cons_succ, List.set_cons_zero, List.set_cons_succ, if_true, Bool.false_eq_true, if_false, reduceIte, List.contains_nil, List.contains_cons, Bool.not_false, Bool.not_true, Bool.and_true, Bool.true_and, Bool.and_false, Bool.or_false, Bool.false_or, Bool.false_and, Bool.true_or, Bool.or_true, addG_int, subI_int, eqG_int, neG_int, eqG_bl, neG_bl, cmpI_int, intG, lenG, absG, List.length_cons, sizeLine_eq, Nat.reduceLeDiff, Nat.reduceLT, Nat.zero_le, Nat.zero_add, List.length_nil, Nat.reduceAdd, beq_self_eq_true, Nat.reduceBEq, reduceCtorEq, Nat.reduceEqDiff, bd_ok, bd_bad, bd_err, x_nopS, x_badS, x_bkS, x_ctS, x_ifM, x_ifS, x_dropS, x_retS, x_retR_v, x_retR_fr, x_retR_al, x_retN, x_setS, x_setR_v, x_setR_fr, x_setR_al, x_varM, x_litM, x_liftO_v, x_liftO_fr, x_liftO_n, x_bin2, x_peek2, x_un1, x_asB, x_toB, x_andM, x_orM, x_notM, x_andV, x_orV, x_notV, x_nilA, x_consA, x_nilV, x_consV, x_tupM, x_lstM, x_callM, x_toV, x_toP, x_toPr_v, x_toPr_fr, x_toPr_al, callR_ok, x_callF, x_isaM, x_chainM, x_noPartM, x_partM, x_sliceM, x_setIx, x_mutM, x_mutK, x_par2, x_par3, x_asgS, x_setD, x_tupG, x_consG, x_nilG, x_seqN, x_enumN, x_seqV, x_enumI, x_zipI, x_rng1, x_rng2, x_sortSetM, x_rgM, kt_NoneType_int, kt_NoneType_bool, kt_NoneType_str, kt_NoneType_tuple, kt_NoneType_list, kt_NoneType_dict, kt_bool_int, kt_bool_bool, kt_bool_str, kt_bool_tuple, kt_bool_list, kt_bool_dict, kt_int_int, kt_int_bool, kt_int_str, kt_int_tuple, kt_int_list, kt_int_dict, kt_str_int, kt_str_bool, kt_str_str, kt_str_tuple, kt_str_list, kt_str_dict, kt_tuple_int, kt_tuple_bool, kt_tuple_str, kt_tuple_tuple, kt_tuple_list, kt_tuple_dict, kt_list_int, kt_list_bool, kt_list_str, kt_list_tuple, kt_list_list, kt_list_dict, Int.reduceLE, Int.reduceSub, Int.reduceToNat, Int.reduceNeg, and_self, true_and, and_true, h]
theorem rangeL_rg (n : Nat) : rangeL 0 (n : Int).toNat = intL (rg n) := by
  unfold rangeL intL rg
  rw [List.map_map, Int.toNat_natCast]
  refine List.map_congr_left fun k _ => ?_
  simp
theorem rg_len (n : Nat) : (rg n).length = n := by unfold rg; simp
theorem rg_mem {n : Nat} {x : Int} : x ∈ rg n ↔ 0 ≤ x ∧ x < n := by
  unfold rg
  rw [List.mem_map]
  constructor
  · rintro ⟨k, hk, rfl⟩
    have := List.mem_range.mp hk
    omega
  · rintro ⟨a, b⟩
    exact ⟨x.toNat, List.mem_range.mpr (by omega), by omega⟩
theorem rng_src {n : Nat} (h2 : n ≤ 12) {l : En} : rng1 (varM 0) (.v (.int n) :: l) = .ok (intL (rg n), none) (.v (.int n) :: l) := by
  have t : -16777216 ≤ (n : Int) ∧ (n : Int) ≤ 16777216 := by omega
  simp only [x_free0, x_freeS, free1_v, free1_no, free1_own, peek, peekL, thaw, argSls, argSl, als, nodup?, putBack, stepBack, tyOf, mutK, shOk, plainR, outs, x_seqS, List.replicate, List.append_nil, List.nil_append, List.cons_append, List.getElem?_cons_zero, List.getElem?_cons_succ, List.set_cons_zero, List.set_cons_succ, if_true, Bool.false_eq_true, if_false, reduceIte, List.contains_nil, List.contains_cons, Bool.not_false, Bool.not_true, Bool.and_true, Bool.true_and, Bool.and_false, Bool.or_false, Bool.false_or, Bool.false_and, Bool.true_or, Bool.or_true, addG_int, subI_int, eqG_int, neG_int, eqG_bl, neG_bl, cmpI_int, intG, lenG, absG, List.length_cons, sizeLine_eq, Nat.reduceLeDiff, Nat.reduceLT, Nat.zero_le, Nat.zero_add, List.length_nil, Nat.reduceAdd, beq_self_eq_true, Nat.reduceBEq, reduceCtorEq, Nat.reduceEqDiff, bd_ok, bd_bad, bd_err, x_nopS, x_badS, x_bkS, x_ctS, x_ifM, x_ifS, x_dropS, x_retS, x_retR_v, x_retR_fr, x_retR_al, x_retN, x_setS, x_setR_v, x_setR_fr, x_setR_al, x_varM, x_litM, x_liftO_v, x_liftO_fr, x_liftO_n, x_bin2, x_peek2, x_un1, x_asB, x_toB, x_andM, x_orM, x_notM, x_andV, x_orV, x_notV, x_nilA, x_consA, x_nilV, x_consV, x_tupM, x_lstM, x_callM, x_toV, x_toP, x_toPr_v, x_toPr_fr, x_toPr_al, callR_ok, x_callF, x_isaM, x_chainM, x_noPartM, x_partM, x_sliceM, x_setIx, x_mutM, x_mutK, x_par2, x_par3, x_asgS, x_setD, x_tupG, x_consG, x_nilG, x_seqN, x_enumN, x_seqV, x_enumI, x_zipI, x_rng1, x_rng2, x_sortSetM, x_rgM, kt_NoneType_int, kt_NoneType_bool, kt_NoneType_str, kt_NoneType_tuple, kt_NoneType_list, kt_NoneType_dict, kt_bool_int, kt_bool_bool, kt_bool_str, kt_bool_tuple, kt_bool_list, kt_bool_dict, kt_int_int, kt_int_bool, kt_int_str, kt_int_tuple, kt_int_list, kt_int_dict, kt_str_int, kt_str_bool, kt_str_str, kt_str_tuple, kt_str_list, kt_str_dict, kt_tuple_int, kt_tuple_bool, kt_tuple_str, kt_tuple_tuple, kt_tuple_list, kt_tuple_dict, kt_list_int, kt_list_bool, kt_list_str, kt_list_tuple, kt_list_list, kt_list_dict, Int.reduceLE, Int.reduceSub, Int.reduceToNat, Int.reduceNeg, and_self, true_and, and_true, t, rangeL_rg]
theorem neg1 : negG (.int 1) = some (.v (.int (-1))) := rfl
theorem cases_len {n : Nat} (k : Kd) : (casesL n k).length ≤ 2 * n + 1 := by
  have f : ∀ l : List Int, (l.flatMap two).length = 2 * l.length := fun l => by
    induction l with
    | nil => rfl
    | cons x l ih => rw [List.flatMap_cons, List.length_append, ih]; simp [two]; omega
  cases k <;> simp only [casesL, List.length_map, List.length_cons, f, rg_len] <;> omega
theorem flat_len {f : Int → List Cs} (hf : ∀ c, (f c).length ≤ 2) : ∀ l : List Int, (l.flatMap f).length ≤ 2 * l.length
  | [] => by simp
  | x :: l => by
    have := flat_len hf l
    have := hf x
    rw [List.flatMap_cons, List.length_append, List.length_cons]
    omega
theorem grow {n : Nat} {body : S} {s0 : Sl} {base : List Cs} {f : Int → List Cs} (hn : n ≤ 12) (hb : base.length ≤ 1) (hf : ∀ c, (f c).length ≤ 2) (st : ∀ (c : Int) (X : List D), X.length ≤ 100 → body [.v (.int n), s0, .mu .own (.lst X), .v (.int c)] = .ok .nx [.v (.int n), s0, .mu .own (.lst (X ++ (f c).map encC)), .v (.int c)]) :
    ∃ s3', forL (setD 3) body (intL (rg n)) [.v (.int n), s0, .mu .own (.lst (base.map encC)), .no] = .ok .nx [.v (.int n), s0, .mu .own (.lst ((base ++ (rg n).flatMap f).map encC)), s3'] := by
  obtain ⟨en', e1, s3', e2, _⟩ := forL_end (g := setD 3) (body := body) (all := intL (rg n)) (en := [.v (.int n), s0, .mu .own (.lst (base.map encC)), .no])
    (fun i en => ∃ s3', en = [.v (.int n), s0, .mu .own (.lst ((base ++ ((rg n).take i).flatMap f).map encC)), s3'] ∧ free1 s3' = true) ⟨.no, by simp, rfl⟩ (fun i d en hd ⟨s3', e, g⟩ => by
      subst e
      unfold intL at hd
      rw [List.getElem?_map] at hd
      cases hq : (rg n)[i]? with
      | none => rw [hq] at hd; cases hd
      | some c =>
        rw [hq] at hd
        cases hd
        have hi := (List.getElem?_eq_some_iff.mp hq).1
        rw [rg_len] at hi
        have hl := flat_len hf ((rg n).take i)
        rw [List.length_take, rg_len] at hl
        refine ⟨[.v (.int n), s0, .mu .own (.lst ((base ++ ((rg n).take i).flatMap f).map encC)), .v (.int c)], _, ?_, st c _ (by rw [List.length_map, List.length_append]; omega), .v (.int c), ?_, rfl⟩
        · simp only [x_free0, x_freeS, free1_v, free1_no, free1_own, peek, peekL, thaw, argSls, argSl, als, nodup?, putBack, stepBack, tyOf, mutK, shOk, plainR, outs, x_seqS, List.replicate, List.append_nil, List.nil_append, List.cons_append, List.getElem?_cons_zero, List.getElem?_cons_succ, List.set_cons_zero, List.set_cons_succ, if_true, Bool.false_eq_true, if_false, reduceIte, List.contains_nil, List.contains_cons, Bool.not_false, Bool.not_true, Bool.and_true, Bool.true_and, Bool.and_false, Bool.or_false, Bool.false_or, Bool.false_and, Bool.true_or, Bool.or_true, addG_int, subI_int, eqG_int, neG_int, eqG_bl, neG_bl, cmpI_int, intG, lenG, absG, List.length_cons, sizeLine_eq, Nat.reduceLeDiff, Nat.reduceLT, Nat.zero_le, Nat.zero_add, List.length_nil, Nat.reduceAdd, beq_self_eq_true, Nat.reduceBEq, reduceCtorEq, Nat.reduceEqDiff, bd_ok, bd_bad, bd_err, x_nopS, x_badS, x_bkS, x_ctS, x_ifM, x_ifS, x_dropS, x_retS, x_retR_v, x_retR_fr, x_retR_al, x_retN, x_setS, x_setR_v, x_setR_fr, x_setR_al, x_varM, x_litM, x_liftO_v, x_liftO_fr, x_liftO_n, x_bin2, x_peek2, x_un1, x_asB, x_toB, x_andM, x_orM, x_notM, x_andV, x_orV, x_notV, x_nilA, x_consA, x_nilV, x_consV, x_tupM, x_lstM, x_callM, x_toV, x_toP, x_toPr_v, x_toPr_fr, x_toPr_al, callR_ok, x_callF, x_isaM, x_chainM, x_noPartM, x_partM, x_sliceM, x_setIx, x_mutM, x_mutK, x_par2, x_par3, x_asgS, x_setD, x_tupG, x_consG, x_nilG, x_seqN, x_enumN, x_seqV, x_enumI, x_zipI, x_rng1, x_rng2, x_sortSetM, x_rgM, kt_NoneType_int, kt_NoneType_bool, kt_NoneType_str, kt_NoneType_tuple, kt_NoneType_list, kt_NoneType_dict, kt_bool_int, kt_bool_bool, kt_bool_str, kt_bool_tuple, kt_bool_list, kt_bool_dict, kt_int_int, kt_int_bool, kt_int_str, kt_int_tuple, kt_int_list, kt_int_dict, kt_str_int, kt_str_bool, kt_str_str, kt_str_tuple, kt_str_list, kt_str_dict, kt_tuple_int, kt_tuple_bool, kt_tuple_str, kt_tuple_tuple, kt_tuple_list, kt_tuple_dict, kt_list_int, kt_list_bool, kt_list_str, kt_list_tuple, kt_list_list, kt_list_dict, Int.reduceLE, Int.reduceSub, Int.reduceToNat, Int.reduceNeg, and_self, true_and, and_true, g]
        · rw [List.take_add_one, hq, Option.toList_some, List.flatMap_append, ← List.append_assoc, List.map_append (f := encC)]
          simp)
  refine ⟨s3', ?_⟩
  rw [e1, e2]
  have : (intL (rg n)).length = (rg n).length := by simp [intL]
  rw [this, List.take_length]
theorem cases_ok {n : Nat} (k : Kd) (h2 : n ≤ 12) : F_cases_of [.v (.int n), .v (.str k.str)] = .ok (.fr (.lst ((casesL n k).map encC))) [.v (.int n), .v (.str k.str)] := by
  have kh := kd_heavy k
  have kn := kd_none k
  have src : ∀ l, rng1 (varM 0) (.v (.int n) :: l) = .ok (intL (rg n), none) (.v (.int n) :: l) := fun l => rng_src h2
  have t : -16777216 ≤ (n : Int) ∧ (n : Int) ≤ 16777216 := by omega
  cases k with
  | hv =>
    have lc := lcM_none' (src := rng1 (varM 0)) (vs := [3]) (g := setD 3) (ft := yesM) (fe := toV (tupM (consV (toV (varM 3)) (consV (toV (litM (.int 1))) nilV)))) (r := (casesL n .hv).map encC) (src [.v (.str Kd.hv.str), .no, .no]) (by
      have e : (casesL n .hv).map encC = (intL (rg n)).map fun d => .tup [d, .int 1] := by unfold casesL intL; rw [List.map_map, List.map_map]; rfl
      rw [e]
      refine lcL_map _ fun d hd => ?_
      obtain ⟨c, _, rfl⟩ := List.mem_map.mp hd
      refine ⟨[.v (.int n), .v (.str Kd.hv.str), .no, .v (.int c)], [.v (.int n), .v (.str Kd.hv.str), .no, .v (.int c)], ?_, ?_, rfl⟩
      · simp only [x_free0, x_freeS, free1_v, free1_no, free1_own, peek, peekL, thaw, argSls, argSl, als, nodup?, putBack, stepBack, tyOf, mutK, shOk, plainR, outs, x_seqS, List.replicate, List.append_nil, List.nil_append, List.cons_append, List.getElem?_cons_zero, List.getElem?_cons_succ, List.set_cons_zero, List.set_cons_succ, if_true, Bool.false_eq_true, if_false, reduceIte, List.contains_nil, List.contains_cons, Bool.not_false, Bool.not_true, Bool.and_true, Bool.true_and, Bool.and_false, Bool.or_false, Bool.false_or, Bool.false_and, Bool.true_or, Bool.or_true, addG_int, subI_int, eqG_int, neG_int, eqG_bl, neG_bl, cmpI_int, intG, lenG, absG, List.length_cons, sizeLine_eq, Nat.reduceLeDiff, Nat.reduceLT, Nat.zero_le, Nat.zero_add, List.length_nil, Nat.reduceAdd, beq_self_eq_true, Nat.reduceBEq, reduceCtorEq, Nat.reduceEqDiff, bd_ok, bd_bad, bd_err, x_nopS, x_badS, x_bkS, x_ctS, x_ifM, x_ifS, x_dropS, x_retS, x_retR_v, x_retR_fr, x_retR_al, x_retN, x_setS, x_setR_v, x_setR_fr, x_setR_al, x_varM, x_litM, x_liftO_v, x_liftO_fr, x_liftO_n, x_bin2, x_peek2, x_un1, x_asB, x_toB, x_andM, x_orM, x_notM, x_andV, x_orV, x_notV, x_nilA, x_consA, x_nilV, x_consV, x_tupM, x_lstM, x_callM, x_toV, x_toP, x_toPr_v, x_toPr_fr, x_toPr_al, callR_ok, x_callF, x_isaM, x_chainM, x_noPartM, x_partM, x_sliceM, x_setIx, x_mutM, x_mutK, x_par2, x_par3, x_asgS, x_setD, x_tupG, x_consG, x_nilG, x_seqN, x_enumN, x_seqV, x_enumI, x_zipI, x_rng1, x_rng2, x_sortSetM, x_rgM, kt_NoneType_int, kt_NoneType_bool, kt_NoneType_str, kt_NoneType_tuple, kt_NoneType_list, kt_NoneType_dict, kt_bool_int, kt_bool_bool, kt_bool_str, kt_bool_tuple, kt_bool_list, kt_bool_dict, kt_int_int, kt_int_bool, kt_int_str, kt_int_tuple, kt_int_list, kt_int_dict, kt_str_int, kt_str_bool, kt_str_str, kt_str_tuple, kt_str_list, kt_str_dict, kt_tuple_int, kt_tuple_bool, kt_tuple_str, kt_tuple_tuple, kt_tuple_list, kt_tuple_dict, kt_list_int, kt_list_bool, kt_list_str, kt_list_tuple, kt_list_list, kt_list_dict, Int.reduceLE, Int.reduceSub, Int.reduceToNat, Int.reduceNeg, and_self, true_and, and_true, wipeE]
      · simp only [x_free0, x_freeS, free1_v, free1_no, free1_own, peek, peekL, thaw, argSls, argSl, als, nodup?, putBack, stepBack, tyOf, mutK, shOk, plainR, outs, x_seqS, List.replicate, List.append_nil, List.nil_append, List.cons_append, List.getElem?_cons_zero, List.getElem?_cons_succ, List.set_cons_zero, List.set_cons_succ, if_true, Bool.false_eq_true, if_false, reduceIte, List.contains_nil, List.contains_cons, Bool.not_false, Bool.not_true, Bool.and_true, Bool.true_and, Bool.and_false, Bool.or_false, Bool.false_or, Bool.false_and, Bool.true_or, Bool.or_true, addG_int, subI_int, eqG_int, neG_int, eqG_bl, neG_bl, cmpI_int, intG, lenG, absG, List.length_cons, sizeLine_eq, Nat.reduceLeDiff, Nat.reduceLT, Nat.zero_le, Nat.zero_add, List.length_nil, Nat.reduceAdd, beq_self_eq_true, Nat.reduceBEq, reduceCtorEq, Nat.reduceEqDiff, bd_ok, bd_bad, bd_err, x_nopS, x_badS, x_bkS, x_ctS, x_ifM, x_ifS, x_dropS, x_retS, x_retR_v, x_retR_fr, x_retR_al, x_retN, x_setS, x_setR_v, x_setR_fr, x_setR_al, x_varM, x_litM, x_liftO_v, x_liftO_fr, x_liftO_n, x_bin2, x_peek2, x_un1, x_asB, x_toB, x_andM, x_orM, x_notM, x_andV, x_orV, x_notV, x_nilA, x_consA, x_nilV, x_consV, x_tupM, x_lstM, x_callM, x_toV, x_toP, x_toPr_v, x_toPr_fr, x_toPr_al, callR_ok, x_callF, x_isaM, x_chainM, x_noPartM, x_partM, x_sliceM, x_setIx, x_mutM, x_mutK, x_par2, x_par3, x_asgS, x_setD, x_tupG, x_consG, x_nilG, x_seqN, x_enumN, x_seqV, x_enumI, x_zipI, x_rng1, x_rng2, x_sortSetM, x_rgM, kt_NoneType_int, kt_NoneType_bool, kt_NoneType_str, kt_NoneType_tuple, kt_NoneType_list, kt_NoneType_dict, kt_bool_int, kt_bool_bool, kt_bool_str, kt_bool_tuple, kt_bool_list, kt_bool_dict, kt_int_int, kt_int_bool, kt_int_str, kt_int_tuple, kt_int_list, kt_int_dict, kt_str_int, kt_str_bool, kt_str_str, kt_str_tuple, kt_str_list, kt_str_dict, kt_tuple_int, kt_tuple_bool, kt_tuple_str, kt_tuple_tuple, kt_tuple_list, kt_tuple_dict, kt_list_int, kt_list_bool, kt_list_str, kt_list_tuple, kt_list_list, kt_list_dict, Int.reduceLE, Int.reduceSub, Int.reduceToNat, Int.reduceNeg, and_self, true_and, and_true])
    unfold F_cases_of fnD b_cases_of
    simp only [x_free0, x_freeS, free1_v, free1_no, free1_own, peek, peekL, thaw, argSls, argSl, als, nodup?, putBack, stepBack, tyOf, mutK, shOk, plainR, outs, x_seqS, List.replicate, List.append_nil, List.nil_append, List.cons_append, List.getElem?_cons_zero, List.getElem?_cons_succ, List.set_cons_zero, List.set_cons_succ, if_true, Bool.false_eq_true, if_false, reduceIte, List.contains_nil, List.contains_cons, Bool.not_false, Bool.not_true, Bool.and_true, Bool.true_and, Bool.and_false, Bool.or_false, Bool.false_or, Bool.false_and, Bool.true_or, Bool.or_true, addG_int, subI_int, eqG_int, neG_int, eqG_bl, neG_bl, cmpI_int, intG, lenG, absG, List.length_cons, sizeLine_eq, Nat.reduceLeDiff, Nat.reduceLT, Nat.zero_le, Nat.zero_add, List.length_nil, Nat.reduceAdd, beq_self_eq_true, Nat.reduceBEq, reduceCtorEq, Nat.reduceEqDiff, bd_ok, bd_bad, bd_err, x_nopS, x_badS, x_bkS, x_ctS, x_ifM, x_ifS, x_dropS, x_retS, x_retR_v, x_retR_fr, x_retR_al, x_retN, x_setS, x_setR_v, x_setR_fr, x_setR_al, x_varM, x_litM, x_liftO_v, x_liftO_fr, x_liftO_n, x_bin2, x_peek2, x_un1, x_asB, x_toB, x_andM, x_orM, x_notM, x_andV, x_orV, x_notV, x_nilA, x_consA, x_nilV, x_consV, x_tupM, x_lstM, x_callM, x_toV, x_toP, x_toPr_v, x_toPr_fr, x_toPr_al, callR_ok, x_callF, x_isaM, x_chainM, x_noPartM, x_partM, x_sliceM, x_setIx, x_mutM, x_mutK, x_par2, x_par3, x_asgS, x_setD, x_tupG, x_consG, x_nilG, x_seqN, x_enumN, x_seqV, x_enumI, x_zipI, x_rng1, x_rng2, x_sortSetM, x_rgM, kt_NoneType_int, kt_NoneType_bool, kt_NoneType_str, kt_NoneType_tuple, kt_NoneType_list, kt_NoneType_dict, kt_bool_int, kt_bool_bool, kt_bool_str, kt_bool_tuple, kt_bool_list, kt_bool_dict, kt_int_int, kt_int_bool, kt_int_str, kt_int_tuple, kt_int_list, kt_int_dict, kt_str_int, kt_str_bool, kt_str_str, kt_str_tuple, kt_str_list, kt_str_dict, kt_tuple_int, kt_tuple_bool, kt_tuple_str, kt_tuple_tuple, kt_tuple_list, kt_tuple_dict, kt_list_int, kt_list_bool, kt_list_str, kt_list_tuple, kt_list_list, kt_list_dict, Int.reduceLE, Int.reduceSub, Int.reduceToNat, Int.reduceNeg, and_self, true_and, and_true, kh, lc]
  | ei =>
    obtain ⟨s3', g⟩ := grow (n := n) (s0 := .v (.str Kd.ei.str)) (base := []) (f := two) (body := (dropS (extM 2 (lstM (consV (toV (tupM (consV (toV (varM 3)) (consV (toV (un1 negG (litM (.int 1)))) nilV)))) (consV (toV (tupM (consV (toV (varM 3)) (consV (toV (litM (.int 1))) nilV)))) nilV)))))) h2 (by simp) (fun c => by simp [two]) (fun c X hX => by
      have c1 : X.length ≤ 16777214 := by omega
      simp only [x_free0, x_freeS, free1_v, free1_no, free1_own, peek, peekL, thaw, argSls, argSl, als, nodup?, putBack, stepBack, tyOf, mutK, shOk, plainR, outs, x_seqS, List.replicate, List.append_nil, List.nil_append, List.cons_append, List.getElem?_cons_zero, List.getElem?_cons_succ, List.set_cons_zero, List.set_cons_succ, if_true, Bool.false_eq_true, if_false, reduceIte, List.contains_nil, List.contains_cons, Bool.not_false, Bool.not_true, Bool.and_true, Bool.true_and, Bool.and_false, Bool.or_false, Bool.false_or, Bool.false_and, Bool.true_or, Bool.or_true, addG_int, subI_int, eqG_int, neG_int, eqG_bl, neG_bl, cmpI_int, intG, lenG, absG, List.length_cons, sizeLine_eq, Nat.reduceLeDiff, Nat.reduceLT, Nat.zero_le, Nat.zero_add, List.length_nil, Nat.reduceAdd, beq_self_eq_true, Nat.reduceBEq, reduceCtorEq, Nat.reduceEqDiff, bd_ok, bd_bad, bd_err, x_nopS, x_badS, x_bkS, x_ctS, x_ifM, x_ifS, x_dropS, x_retS, x_retR_v, x_retR_fr, x_retR_al, x_retN, x_setS, x_setR_v, x_setR_fr, x_setR_al, x_varM, x_litM, x_liftO_v, x_liftO_fr, x_liftO_n, x_bin2, x_peek2, x_un1, x_asB, x_toB, x_andM, x_orM, x_notM, x_andV, x_orV, x_notV, x_nilA, x_consA, x_nilV, x_consV, x_tupM, x_lstM, x_callM, x_toV, x_toP, x_toPr_v, x_toPr_fr, x_toPr_al, callR_ok, x_callF, x_isaM, x_chainM, x_noPartM, x_partM, x_sliceM, x_setIx, x_mutM, x_mutK, x_par2, x_par3, x_asgS, x_setD, x_tupG, x_consG, x_nilG, x_seqN, x_enumN, x_seqV, x_enumI, x_zipI, x_rng1, x_rng2, x_sortSetM, x_rgM, kt_NoneType_int, kt_NoneType_bool, kt_NoneType_str, kt_NoneType_tuple, kt_NoneType_list, kt_NoneType_dict, kt_bool_int, kt_bool_bool, kt_bool_str, kt_bool_tuple, kt_bool_list, kt_bool_dict, kt_int_int, kt_int_bool, kt_int_str, kt_int_tuple, kt_int_list, kt_int_dict, kt_str_int, kt_str_bool, kt_str_str, kt_str_tuple, kt_str_list, kt_str_dict, kt_tuple_int, kt_tuple_bool, kt_tuple_str, kt_tuple_tuple, kt_tuple_list, kt_tuple_dict, kt_list_int, kt_list_bool, kt_list_str, kt_list_tuple, kt_list_list, kt_list_dict, Int.reduceLE, Int.reduceSub, Int.reduceToNat, Int.reduceNeg, and_self, true_and, and_true, extM, extR, M.bnd, neg1, two, List.map_cons, List.map_nil, encC, c1])
    unfold F_cases_of fnD b_cases_of
    simp only [x_free0, x_freeS, free1_v, free1_no, free1_own, peek, peekL, thaw, argSls, argSl, als, nodup?, putBack, stepBack, tyOf, mutK, shOk, plainR, outs, x_seqS, List.replicate, List.append_nil, List.nil_append, List.cons_append, List.getElem?_cons_zero, List.getElem?_cons_succ, List.set_cons_zero, List.set_cons_succ, if_true, Bool.false_eq_true, if_false, reduceIte, List.contains_nil, List.contains_cons, Bool.not_false, Bool.not_true, Bool.and_true, Bool.true_and, Bool.and_false, Bool.or_false, Bool.false_or, Bool.false_and, Bool.true_or, Bool.or_true, addG_int, subI_int, eqG_int, neG_int, eqG_bl, neG_bl, cmpI_int, intG, lenG, absG, List.length_cons, sizeLine_eq, Nat.reduceLeDiff, Nat.reduceLT, Nat.zero_le, Nat.zero_add, List.length_nil, Nat.reduceAdd, beq_self_eq_true, Nat.reduceBEq, reduceCtorEq, Nat.reduceEqDiff, bd_ok, bd_bad, bd_err, x_nopS, x_badS, x_bkS, x_ctS, x_ifM, x_ifS, x_dropS, x_retS, x_retR_v, x_retR_fr, x_retR_al, x_retN, x_setS, x_setR_v, x_setR_fr, x_setR_al, x_varM, x_litM, x_liftO_v, x_liftO_fr, x_liftO_n, x_bin2, x_peek2, x_un1, x_asB, x_toB, x_andM, x_orM, x_notM, x_andV, x_orV, x_notV, x_nilA, x_consA, x_nilV, x_consV, x_tupM, x_lstM, x_callM, x_toV, x_toP, x_toPr_v, x_toPr_fr, x_toPr_al, callR_ok, x_callF, x_isaM, x_chainM, x_noPartM, x_partM, x_sliceM, x_setIx, x_mutM, x_mutK, x_par2, x_par3, x_asgS, x_setD, x_tupG, x_consG, x_nilG, x_seqN, x_enumN, x_seqV, x_enumI, x_zipI, x_rng1, x_rng2, x_sortSetM, x_rgM, kt_NoneType_int, kt_NoneType_bool, kt_NoneType_str, kt_NoneType_tuple, kt_NoneType_list, kt_NoneType_dict, kt_bool_int, kt_bool_bool, kt_bool_str, kt_bool_tuple, kt_bool_list, kt_bool_dict, kt_int_int, kt_int_bool, kt_int_str, kt_int_tuple, kt_int_list, kt_int_dict, kt_str_int, kt_str_bool, kt_str_str, kt_str_tuple, kt_str_list, kt_str_dict, kt_tuple_int, kt_tuple_bool, kt_tuple_str, kt_tuple_tuple, kt_tuple_list, kt_tuple_dict, kt_list_int, kt_list_bool, kt_list_str, kt_list_tuple, kt_list_list, kt_list_dict, Int.reduceLE, Int.reduceSub, Int.reduceToNat, Int.reduceNeg, and_self, true_and, and_true, kh, kn, x_forS, t, rangeL_rg, x_withSrc_none]
    simp only [List.map_nil, List.nil_append] at g
    simp only [x_free0, x_freeS, free1_v, free1_no, free1_own, peek, peekL, thaw, argSls, argSl, als, nodup?, putBack, stepBack, tyOf, mutK, shOk, plainR, outs, x_seqS, List.replicate, List.append_nil, List.nil_append, List.cons_append, List.getElem?_cons_zero, List.getElem?_cons_succ, List.set_cons_zero, List.set_cons_succ, if_true, Bool.false_eq_true, if_false, reduceIte, List.contains_nil, List.contains_cons, Bool.not_false, Bool.not_true, Bool.and_true, Bool.true_and, Bool.and_false, Bool.or_false, Bool.false_or, Bool.false_and, Bool.true_or, Bool.or_true, addG_int, subI_int, eqG_int, neG_int, eqG_bl, neG_bl, cmpI_int, intG, lenG, absG, List.length_cons, sizeLine_eq, Nat.reduceLeDiff, Nat.reduceLT, Nat.zero_le, Nat.zero_add, List.length_nil, Nat.reduceAdd, beq_self_eq_true, Nat.reduceBEq, reduceCtorEq, Nat.reduceEqDiff, bd_ok, bd_bad, bd_err, x_nopS, x_badS, x_bkS, x_ctS, x_ifM, x_ifS, x_dropS, x_retS, x_retR_v, x_retR_fr, x_retR_al, x_retN, x_setS, x_setR_v, x_setR_fr, x_setR_al, x_varM, x_litM, x_liftO_v, x_liftO_fr, x_liftO_n, x_bin2, x_peek2, x_un1, x_asB, x_toB, x_andM, x_orM, x_notM, x_andV, x_orV, x_notV, x_nilA, x_consA, x_nilV, x_consV, x_tupM, x_lstM, x_callM, x_toV, x_toP, x_toPr_v, x_toPr_fr, x_toPr_al, callR_ok, x_callF, x_isaM, x_chainM, x_noPartM, x_partM, x_sliceM, x_setIx, x_mutM, x_mutK, x_par2, x_par3, x_asgS, x_setD, x_tupG, x_consG, x_nilG, x_seqN, x_enumN, x_seqV, x_enumI, x_zipI, x_rng1, x_rng2, x_sortSetM, x_rgM, kt_NoneType_int, kt_NoneType_bool, kt_NoneType_str, kt_NoneType_tuple, kt_NoneType_list, kt_NoneType_dict, kt_bool_int, kt_bool_bool, kt_bool_str, kt_bool_tuple, kt_bool_list, kt_bool_dict, kt_int_int, kt_int_bool, kt_int_str, kt_int_tuple, kt_int_list, kt_int_dict, kt_str_int, kt_str_bool, kt_str_str, kt_str_tuple, kt_str_list, kt_str_dict, kt_tuple_int, kt_tuple_bool, kt_tuple_str, kt_tuple_tuple, kt_tuple_list, kt_tuple_dict, kt_list_int, kt_list_bool, kt_list_str, kt_list_tuple, kt_list_list, kt_list_dict, Int.reduceLE, Int.reduceSub, Int.reduceToNat, Int.reduceNeg, and_self, true_and, and_true, g]
    rfl
  | on =>
    obtain ⟨s3', g⟩ := grow (n := n) (s0 := .v (.str Kd.on.str)) (base := [none]) (f := two) (body := (dropS (extM 2 (lstM (consV (toV (tupM (consV (toV (varM 3)) (consV (toV (un1 negG (litM (.int 1)))) nilV)))) (consV (toV (tupM (consV (toV (varM 3)) (consV (toV (litM (.int 1))) nilV)))) nilV)))))) h2 (by simp) (fun c => by simp [two]) (fun c X hX => by
      have c1 : X.length ≤ 16777214 := by omega
      simp only [x_free0, x_freeS, free1_v, free1_no, free1_own, peek, peekL, thaw, argSls, argSl, als, nodup?, putBack, stepBack, tyOf, mutK, shOk, plainR, outs, x_seqS, List.replicate, List.append_nil, List.nil_append, List.cons_append, List.getElem?_cons_zero, List.getElem?_cons_succ, List.set_cons_zero, List.set_cons_succ, if_true, Bool.false_eq_true, if_false, reduceIte, List.contains_nil, List.contains_cons, Bool.not_false, Bool.not_true, Bool.and_true, Bool.true_and, Bool.and_false, Bool.or_false, Bool.false_or, Bool.false_and, Bool.true_or, Bool.or_true, addG_int, subI_int, eqG_int, neG_int, eqG_bl, neG_bl, cmpI_int, intG, lenG, absG, List.length_cons, sizeLine_eq, Nat.reduceLeDiff, Nat.reduceLT, Nat.zero_le, Nat.zero_add, List.length_nil, Nat.reduceAdd, beq_self_eq_true, Nat.reduceBEq, reduceCtorEq, Nat.reduceEqDiff, bd_ok, bd_bad, bd_err, x_nopS, x_badS, x_bkS, x_ctS, x_ifM, x_ifS, x_dropS, x_retS, x_retR_v, x_retR_fr, x_retR_al, x_retN, x_setS, x_setR_v, x_setR_fr, x_setR_al, x_varM, x_litM, x_liftO_v, x_liftO_fr, x_liftO_n, x_bin2, x_peek2, x_un1, x_asB, x_toB, x_andM, x_orM, x_notM, x_andV, x_orV, x_notV, x_nilA, x_consA, x_nilV, x_consV, x_tupM, x_lstM, x_callM, x_toV, x_toP, x_toPr_v, x_toPr_fr, x_toPr_al, callR_ok, x_callF, x_isaM, x_chainM, x_noPartM, x_partM, x_sliceM, x_setIx, x_mutM, x_mutK, x_par2, x_par3, x_asgS, x_setD, x_tupG, x_consG, x_nilG, x_seqN, x_enumN, x_seqV, x_enumI, x_zipI, x_rng1, x_rng2, x_sortSetM, x_rgM, kt_NoneType_int, kt_NoneType_bool, kt_NoneType_str, kt_NoneType_tuple, kt_NoneType_list, kt_NoneType_dict, kt_bool_int, kt_bool_bool, kt_bool_str, kt_bool_tuple, kt_bool_list, kt_bool_dict, kt_int_int, kt_int_bool, kt_int_str, kt_int_tuple, kt_int_list, kt_int_dict, kt_str_int, kt_str_bool, kt_str_str, kt_str_tuple, kt_str_list, kt_str_dict, kt_tuple_int, kt_tuple_bool, kt_tuple_str, kt_tuple_tuple, kt_tuple_list, kt_tuple_dict, kt_list_int, kt_list_bool, kt_list_str, kt_list_tuple, kt_list_list, kt_list_dict, Int.reduceLE, Int.reduceSub, Int.reduceToNat, Int.reduceNeg, and_self, true_and, and_true, extM, extR, M.bnd, neg1, two, List.map_cons, List.map_nil, encC, c1])
    unfold F_cases_of fnD b_cases_of
    simp only [x_free0, x_freeS, free1_v, free1_no, free1_own, peek, peekL, thaw, argSls, argSl, als, nodup?, putBack, stepBack, tyOf, mutK, shOk, plainR, outs, x_seqS, List.replicate, List.append_nil, List.nil_append, List.cons_append, List.getElem?_cons_zero, List.getElem?_cons_succ, List.set_cons_zero, List.set_cons_succ, if_true, Bool.false_eq_true, if_false, reduceIte, List.contains_nil, List.contains_cons, Bool.not_false, Bool.not_true, Bool.and_true, Bool.true_and, Bool.and_false, Bool.or_false, Bool.false_or, Bool.false_and, Bool.true_or, Bool.or_true, addG_int, subI_int, eqG_int, neG_int, eqG_bl, neG_bl, cmpI_int, intG, lenG, absG, List.length_cons, sizeLine_eq, Nat.reduceLeDiff, Nat.reduceLT, Nat.zero_le, Nat.zero_add, List.length_nil, Nat.reduceAdd, beq_self_eq_true, Nat.reduceBEq, reduceCtorEq, Nat.reduceEqDiff, bd_ok, bd_bad, bd_err, x_nopS, x_badS, x_bkS, x_ctS, x_ifM, x_ifS, x_dropS, x_retS, x_retR_v, x_retR_fr, x_retR_al, x_retN, x_setS, x_setR_v, x_setR_fr, x_setR_al, x_varM, x_litM, x_liftO_v, x_liftO_fr, x_liftO_n, x_bin2, x_peek2, x_un1, x_asB, x_toB, x_andM, x_orM, x_notM, x_andV, x_orV, x_notV, x_nilA, x_consA, x_nilV, x_consV, x_tupM, x_lstM, x_callM, x_toV, x_toP, x_toPr_v, x_toPr_fr, x_toPr_al, callR_ok, x_callF, x_isaM, x_chainM, x_noPartM, x_partM, x_sliceM, x_setIx, x_mutM, x_mutK, x_par2, x_par3, x_asgS, x_setD, x_tupG, x_consG, x_nilG, x_seqN, x_enumN, x_seqV, x_enumI, x_zipI, x_rng1, x_rng2, x_sortSetM, x_rgM, kt_NoneType_int, kt_NoneType_bool, kt_NoneType_str, kt_NoneType_tuple, kt_NoneType_list, kt_NoneType_dict, kt_bool_int, kt_bool_bool, kt_bool_str, kt_bool_tuple, kt_bool_list, kt_bool_dict, kt_int_int, kt_int_bool, kt_int_str, kt_int_tuple, kt_int_list, kt_int_dict, kt_str_int, kt_str_bool, kt_str_str, kt_str_tuple, kt_str_list, kt_str_dict, kt_tuple_int, kt_tuple_bool, kt_tuple_str, kt_tuple_tuple, kt_tuple_list, kt_tuple_dict, kt_list_int, kt_list_bool, kt_list_str, kt_list_tuple, kt_list_list, kt_list_dict, Int.reduceLE, Int.reduceSub, Int.reduceToNat, Int.reduceNeg, and_self, true_and, and_true, kh, kn, x_forS, t, rangeL_rg, x_withSrc_none]
    simp only [List.map_cons, List.map_nil, encC] at g
    simp only [x_free0, x_freeS, free1_v, free1_no, free1_own, peek, peekL, thaw, argSls, argSl, als, nodup?, putBack, stepBack, tyOf, mutK, shOk, plainR, outs, x_seqS, List.replicate, List.append_nil, List.nil_append, List.cons_append, List.getElem?_cons_zero, List.getElem?_cons_succ, List.set_cons_zero, List.set_cons_succ, if_true, Bool.false_eq_true, if_false, reduceIte, List.contains_nil, List.contains_cons, Bool.not_false, Bool.not_true, Bool.and_true, Bool.true_and, Bool.and_false, Bool.or_false, Bool.false_or, Bool.false_and, Bool.true_or, Bool.or_true, addG_int, subI_int, eqG_int, neG_int, eqG_bl, neG_bl, cmpI_int, intG, lenG, absG, List.length_cons, sizeLine_eq, Nat.reduceLeDiff, Nat.reduceLT, Nat.zero_le, Nat.zero_add, List.length_nil, Nat.reduceAdd, beq_self_eq_true, Nat.reduceBEq, reduceCtorEq, Nat.reduceEqDiff, bd_ok, bd_bad, bd_err, x_nopS, x_badS, x_bkS, x_ctS, x_ifM, x_ifS, x_dropS, x_retS, x_retR_v, x_retR_fr, x_retR_al, x_retN, x_setS, x_setR_v, x_setR_fr, x_setR_al, x_varM, x_litM, x_liftO_v, x_liftO_fr, x_liftO_n, x_bin2, x_peek2, x_un1, x_asB, x_toB, x_andM, x_orM, x_notM, x_andV, x_orV, x_notV, x_nilA, x_consA, x_nilV, x_consV, x_tupM, x_lstM, x_callM, x_toV, x_toP, x_toPr_v, x_toPr_fr, x_toPr_al, callR_ok, x_callF, x_isaM, x_chainM, x_noPartM, x_partM, x_sliceM, x_setIx, x_mutM, x_mutK, x_par2, x_par3, x_asgS, x_setD, x_tupG, x_consG, x_nilG, x_seqN, x_enumN, x_seqV, x_enumI, x_zipI, x_rng1, x_rng2, x_sortSetM, x_rgM, kt_NoneType_int, kt_NoneType_bool, kt_NoneType_str, kt_NoneType_tuple, kt_NoneType_list, kt_NoneType_dict, kt_bool_int, kt_bool_bool, kt_bool_str, kt_bool_tuple, kt_bool_list, kt_bool_dict, kt_int_int, kt_int_bool, kt_int_str, kt_int_tuple, kt_int_list, kt_int_dict, kt_str_int, kt_str_bool, kt_str_str, kt_str_tuple, kt_str_list, kt_str_dict, kt_tuple_int, kt_tuple_bool, kt_tuple_str, kt_tuple_tuple, kt_tuple_list, kt_tuple_dict, kt_list_int, kt_list_bool, kt_list_str, kt_list_tuple, kt_list_list, kt_list_dict, Int.reduceLE, Int.reduceSub, Int.reduceToNat, Int.reduceNeg, and_self, true_and, and_true, g]
    rfl
end K59
set_option linter.all false
set_option maxRecDepth 100000
set_option maxHeartbeats 4000000
namespace K59
open PySem PySem.Spec PyProof.Rows L2 Fw
theorem isG_none : isG .non .non = some (.v (.bl true)) := rfl
theorem isG_tup (l : List D) : isG (.tup l) .non = some (.v (.bl false)) := rfl
theorem ix2_0 (a b : D) : ixG (.tup [a, b]) (.int 0) = some (.v a) := rfl
theorem ix2_1 (a b : D) : ixG (.tup [a, b]) (.int 1) = some (.v b) := rfl
theorem told_by_ok (w : Wg) (c : Cs) : F_told_by [.v (encW w), .v (encC c)] = .ok (.v (.int (tells w c))) [.v (encW w), .v (encC c)] := by
  unfold F_told_by fnD b_told_by
  cases c with
  | none => simp only [x_free0, x_freeS, free1_v, free1_no, free1_own, peek, peekL, thaw, argSls, argSl, als, nodup?, putBack, stepBack, tyOf, mutK, shOk, plainR, outs, x_seqS, List.replicate, List.append_nil, List.nil_append, List.cons_append, List.getElem?_cons_zero, List.getElem?_cons_succ, List.set_cons_zero, List.set_cons_succ, if_true, Bool.false_eq_true, if_false, reduceIte, List.contains_nil, List.contains_cons, Bool.not_false, Bool.not_true, Bool.and_true, Bool.true_and, Bool.and_false, Bool.or_false, Bool.false_or, Bool.false_and, Bool.true_or, Bool.or_true, addG_int, subI_int, eqG_int, neG_int, eqG_bl, neG_bl, cmpI_int, intG, lenG, absG, List.length_cons, sizeLine_eq, Nat.reduceLeDiff, Nat.reduceLT, Nat.zero_le, Nat.zero_add, List.length_nil, Nat.reduceAdd, beq_self_eq_true, Nat.reduceBEq, reduceCtorEq, Nat.reduceEqDiff, bd_ok, bd_bad, bd_err, x_nopS, x_badS, x_bkS, x_ctS, x_ifM, x_ifS, x_dropS, x_retS, x_retR_v, x_retR_fr, x_retR_al, x_retN, x_setS, x_setR_v, x_setR_fr, x_setR_al, x_varM, x_litM, x_liftO_v, x_liftO_fr, x_liftO_n, x_bin2, x_peek2, x_un1, x_asB, x_toB, x_andM, x_orM, x_notM, x_andV, x_orV, x_notV, x_nilA, x_consA, x_nilV, x_consV, x_tupM, x_lstM, x_callM, x_toV, x_toP, x_toPr_v, x_toPr_fr, x_toPr_al, callR_ok, x_callF, x_isaM, x_chainM, x_noPartM, x_partM, x_sliceM, x_setIx, x_mutM, x_mutK, x_par2, x_par3, x_asgS, x_setD, x_tupG, x_consG, x_nilG, x_seqN, x_enumN, x_seqV, x_enumI, x_zipI, x_rng1, x_rng2, x_sortSetM, x_rgM, kt_NoneType_int, kt_NoneType_bool, kt_NoneType_str, kt_NoneType_tuple, kt_NoneType_list, kt_NoneType_dict, kt_bool_int, kt_bool_bool, kt_bool_str, kt_bool_tuple, kt_bool_list, kt_bool_dict, kt_int_int, kt_int_bool, kt_int_str, kt_int_tuple, kt_int_list, kt_int_dict, kt_str_int, kt_str_bool, kt_str_str, kt_str_tuple, kt_str_list, kt_str_dict, kt_tuple_int, kt_tuple_bool, kt_tuple_str, kt_tuple_tuple, kt_tuple_list, kt_tuple_dict, kt_list_int, kt_list_bool, kt_list_str, kt_list_tuple, kt_list_list, kt_list_dict, Int.reduceLE, Int.reduceSub, Int.reduceToNat, Int.reduceNeg, and_self, true_and, and_true, encW, encC, isG_none, tells]
  | some q =>
    obtain ⟨c, s⟩ := q
    by_cases h1 : c ∈ w.1
    · simp only [x_free0, x_freeS, free1_v, free1_no, free1_own, peek, peekL, thaw, argSls, argSl, als, nodup?, putBack, stepBack, tyOf, mutK, shOk, plainR, outs, x_seqS, List.replicate, List.append_nil, List.nil_append, List.cons_append, List.getElem?_cons_zero, List.getElem?_cons_succ, List.set_cons_zero, List.set_cons_succ, if_true, Bool.false_eq_true, if_false, reduceIte, List.contains_nil, List.contains_cons, Bool.not_false, Bool.not_true, Bool.and_true, Bool.true_and, Bool.and_false, Bool.or_false, Bool.false_or, Bool.false_and, Bool.true_or, Bool.or_true, addG_int, subI_int, eqG_int, neG_int, eqG_bl, neG_bl, cmpI_int, intG, lenG, absG, List.length_cons, sizeLine_eq, Nat.reduceLeDiff, Nat.reduceLT, Nat.zero_le, Nat.zero_add, List.length_nil, Nat.reduceAdd, beq_self_eq_true, Nat.reduceBEq, reduceCtorEq, Nat.reduceEqDiff, bd_ok, bd_bad, bd_err, x_nopS, x_badS, x_bkS, x_ctS, x_ifM, x_ifS, x_dropS, x_retS, x_retR_v, x_retR_fr, x_retR_al, x_retN, x_setS, x_setR_v, x_setR_fr, x_setR_al, x_varM, x_litM, x_liftO_v, x_liftO_fr, x_liftO_n, x_bin2, x_peek2, x_un1, x_asB, x_toB, x_andM, x_orM, x_notM, x_andV, x_orV, x_notV, x_nilA, x_consA, x_nilV, x_consV, x_tupM, x_lstM, x_callM, x_toV, x_toP, x_toPr_v, x_toPr_fr, x_toPr_al, callR_ok, x_callF, x_isaM, x_chainM, x_noPartM, x_partM, x_sliceM, x_setIx, x_mutM, x_mutK, x_par2, x_par3, x_asgS, x_setD, x_tupG, x_consG, x_nilG, x_seqN, x_enumN, x_seqV, x_enumI, x_zipI, x_rng1, x_rng2, x_sortSetM, x_rgM, kt_NoneType_int, kt_NoneType_bool, kt_NoneType_str, kt_NoneType_tuple, kt_NoneType_list, kt_NoneType_dict, kt_bool_int, kt_bool_bool, kt_bool_str, kt_bool_tuple, kt_bool_list, kt_bool_dict, kt_int_int, kt_int_bool, kt_int_str, kt_int_tuple, kt_int_list, kt_int_dict, kt_str_int, kt_str_bool, kt_str_str, kt_str_tuple, kt_str_list, kt_str_dict, kt_tuple_int, kt_tuple_bool, kt_tuple_str, kt_tuple_tuple, kt_tuple_list, kt_tuple_dict, kt_list_int, kt_list_bool, kt_list_str, kt_list_tuple, kt_list_list, kt_list_dict, Int.reduceLE, Int.reduceSub, Int.reduceToNat, Int.reduceNeg, and_self, true_and, and_true, encW, encC, isG_tup, tells, ix2_0, inG_tints, h1, decide_true]
    · by_cases h2 : c ∈ w.2
      · simp only [x_free0, x_freeS, free1_v, free1_no, free1_own, peek, peekL, thaw, argSls, argSl, als, nodup?, putBack, stepBack, tyOf, mutK, shOk, plainR, outs, x_seqS, List.replicate, List.append_nil, List.nil_append, List.cons_append, List.getElem?_cons_zero, List.getElem?_cons_succ, List.set_cons_zero, List.set_cons_succ, if_true, Bool.false_eq_true, if_false, reduceIte, List.contains_nil, List.contains_cons, Bool.not_false, Bool.not_true, Bool.and_true, Bool.true_and, Bool.and_false, Bool.or_false, Bool.false_or, Bool.false_and, Bool.true_or, Bool.or_true, addG_int, subI_int, eqG_int, neG_int, eqG_bl, neG_bl, cmpI_int, intG, lenG, absG, List.length_cons, sizeLine_eq, Nat.reduceLeDiff, Nat.reduceLT, Nat.zero_le, Nat.zero_add, List.length_nil, Nat.reduceAdd, beq_self_eq_true, Nat.reduceBEq, reduceCtorEq, Nat.reduceEqDiff, bd_ok, bd_bad, bd_err, x_nopS, x_badS, x_bkS, x_ctS, x_ifM, x_ifS, x_dropS, x_retS, x_retR_v, x_retR_fr, x_retR_al, x_retN, x_setS, x_setR_v, x_setR_fr, x_setR_al, x_varM, x_litM, x_liftO_v, x_liftO_fr, x_liftO_n, x_bin2, x_peek2, x_un1, x_asB, x_toB, x_andM, x_orM, x_notM, x_andV, x_orV, x_notV, x_nilA, x_consA, x_nilV, x_consV, x_tupM, x_lstM, x_callM, x_toV, x_toP, x_toPr_v, x_toPr_fr, x_toPr_al, callR_ok, x_callF, x_isaM, x_chainM, x_noPartM, x_partM, x_sliceM, x_setIx, x_mutM, x_mutK, x_par2, x_par3, x_asgS, x_setD, x_tupG, x_consG, x_nilG, x_seqN, x_enumN, x_seqV, x_enumI, x_zipI, x_rng1, x_rng2, x_sortSetM, x_rgM, kt_NoneType_int, kt_NoneType_bool, kt_NoneType_str, kt_NoneType_tuple, kt_NoneType_list, kt_NoneType_dict, kt_bool_int, kt_bool_bool, kt_bool_str, kt_bool_tuple, kt_bool_list, kt_bool_dict, kt_int_int, kt_int_bool, kt_int_str, kt_int_tuple, kt_int_list, kt_int_dict, kt_str_int, kt_str_bool, kt_str_str, kt_str_tuple, kt_str_list, kt_str_dict, kt_tuple_int, kt_tuple_bool, kt_tuple_str, kt_tuple_tuple, kt_tuple_list, kt_tuple_dict, kt_list_int, kt_list_bool, kt_list_str, kt_list_tuple, kt_list_list, kt_list_dict, Int.reduceLE, Int.reduceSub, Int.reduceToNat, Int.reduceNeg, and_self, true_and, and_true, encW, encC, isG_tup, tells, ix2_0, ix2_1, inG_tints, h1, h2, decide_true, decide_false]
      · simp only [x_free0, x_freeS, free1_v, free1_no, free1_own, peek, peekL, thaw, argSls, argSl, als, nodup?, putBack, stepBack, tyOf, mutK, shOk, plainR, outs, x_seqS, List.replicate, List.append_nil, List.nil_append, List.cons_append, List.getElem?_cons_zero, List.getElem?_cons_succ, List.set_cons_zero, List.set_cons_succ, if_true, Bool.false_eq_true, if_false, reduceIte, List.contains_nil, List.contains_cons, Bool.not_false, Bool.not_true, Bool.and_true, Bool.true_and, Bool.and_false, Bool.or_false, Bool.false_or, Bool.false_and, Bool.true_or, Bool.or_true, addG_int, subI_int, eqG_int, neG_int, eqG_bl, neG_bl, cmpI_int, intG, lenG, absG, List.length_cons, sizeLine_eq, Nat.reduceLeDiff, Nat.reduceLT, Nat.zero_le, Nat.zero_add, List.length_nil, Nat.reduceAdd, beq_self_eq_true, Nat.reduceBEq, reduceCtorEq, Nat.reduceEqDiff, bd_ok, bd_bad, bd_err, x_nopS, x_badS, x_bkS, x_ctS, x_ifM, x_ifS, x_dropS, x_retS, x_retR_v, x_retR_fr, x_retR_al, x_retN, x_setS, x_setR_v, x_setR_fr, x_setR_al, x_varM, x_litM, x_liftO_v, x_liftO_fr, x_liftO_n, x_bin2, x_peek2, x_un1, x_asB, x_toB, x_andM, x_orM, x_notM, x_andV, x_orV, x_notV, x_nilA, x_consA, x_nilV, x_consV, x_tupM, x_lstM, x_callM, x_toV, x_toP, x_toPr_v, x_toPr_fr, x_toPr_al, callR_ok, x_callF, x_isaM, x_chainM, x_noPartM, x_partM, x_sliceM, x_setIx, x_mutM, x_mutK, x_par2, x_par3, x_asgS, x_setD, x_tupG, x_consG, x_nilG, x_seqN, x_enumN, x_seqV, x_enumI, x_zipI, x_rng1, x_rng2, x_sortSetM, x_rgM, kt_NoneType_int, kt_NoneType_bool, kt_NoneType_str, kt_NoneType_tuple, kt_NoneType_list, kt_NoneType_dict, kt_bool_int, kt_bool_bool, kt_bool_str, kt_bool_tuple, kt_bool_list, kt_bool_dict, kt_int_int, kt_int_bool, kt_int_str, kt_int_tuple, kt_int_list, kt_int_dict, kt_str_int, kt_str_bool, kt_str_str, kt_str_tuple, kt_str_list, kt_str_dict, kt_tuple_int, kt_tuple_bool, kt_tuple_str, kt_tuple_tuple, kt_tuple_list, kt_tuple_dict, kt_list_int, kt_list_bool, kt_list_str, kt_list_tuple, kt_list_list, kt_list_dict, Int.reduceLE, Int.reduceSub, Int.reduceToNat, Int.reduceNeg, and_self, true_and, and_true, encW, encC, isG_tup, tells, ix2_0, ix2_1, inG_tints, h1, h2, decide_false]
theorem law_tells_ok (w : Wg) (c : Cs) : F__law_tells [.v (encW w), .v (encC c)] = .ok (.v (.int (tells w c))) [.v (encW w), .v (encC c)] := by
  unfold F__law_tells fnD b__law_tells
  cases c with
  | none => simp only [x_free0, x_freeS, free1_v, free1_no, free1_own, peek, peekL, thaw, argSls, argSl, als, nodup?, putBack, stepBack, tyOf, mutK, shOk, plainR, outs, x_seqS, List.replicate, List.append_nil, List.nil_append, List.cons_append, List.getElem?_cons_zero, List.getElem?_cons_succ, List.set_cons_zero, List.set_cons_succ, if_true, Bool.false_eq_true, if_false, reduceIte, List.contains_nil, List.contains_cons, Bool.not_false, Bool.not_true, Bool.and_true, Bool.true_and, Bool.and_false, Bool.or_false, Bool.false_or, Bool.false_and, Bool.true_or, Bool.or_true, addG_int, subI_int, eqG_int, neG_int, eqG_bl, neG_bl, cmpI_int, intG, lenG, absG, List.length_cons, sizeLine_eq, Nat.reduceLeDiff, Nat.reduceLT, Nat.zero_le, Nat.zero_add, List.length_nil, Nat.reduceAdd, beq_self_eq_true, Nat.reduceBEq, reduceCtorEq, Nat.reduceEqDiff, bd_ok, bd_bad, bd_err, x_nopS, x_badS, x_bkS, x_ctS, x_ifM, x_ifS, x_dropS, x_retS, x_retR_v, x_retR_fr, x_retR_al, x_retN, x_setS, x_setR_v, x_setR_fr, x_setR_al, x_varM, x_litM, x_liftO_v, x_liftO_fr, x_liftO_n, x_bin2, x_peek2, x_un1, x_asB, x_toB, x_andM, x_orM, x_notM, x_andV, x_orV, x_notV, x_nilA, x_consA, x_nilV, x_consV, x_tupM, x_lstM, x_callM, x_toV, x_toP, x_toPr_v, x_toPr_fr, x_toPr_al, callR_ok, x_callF, x_isaM, x_chainM, x_noPartM, x_partM, x_sliceM, x_setIx, x_mutM, x_mutK, x_par2, x_par3, x_asgS, x_setD, x_tupG, x_consG, x_nilG, x_seqN, x_enumN, x_seqV, x_enumI, x_zipI, x_rng1, x_rng2, x_sortSetM, x_rgM, kt_NoneType_int, kt_NoneType_bool, kt_NoneType_str, kt_NoneType_tuple, kt_NoneType_list, kt_NoneType_dict, kt_bool_int, kt_bool_bool, kt_bool_str, kt_bool_tuple, kt_bool_list, kt_bool_dict, kt_int_int, kt_int_bool, kt_int_str, kt_int_tuple, kt_int_list, kt_int_dict, kt_str_int, kt_str_bool, kt_str_str, kt_str_tuple, kt_str_list, kt_str_dict, kt_tuple_int, kt_tuple_bool, kt_tuple_str, kt_tuple_tuple, kt_tuple_list, kt_tuple_dict, kt_list_int, kt_list_bool, kt_list_str, kt_list_tuple, kt_list_list, kt_list_dict, Int.reduceLE, Int.reduceSub, Int.reduceToNat, Int.reduceNeg, and_self, true_and, and_true, encW, encC, isG_none, tells]
  | some q =>
    obtain ⟨c, s⟩ := q
    by_cases h1 : c ∈ w.1
    · simp only [x_free0, x_freeS, free1_v, free1_no, free1_own, peek, peekL, thaw, argSls, argSl, als, nodup?, putBack, stepBack, tyOf, mutK, shOk, plainR, outs, x_seqS, List.replicate, List.append_nil, List.nil_append, List.cons_append, List.getElem?_cons_zero, List.getElem?_cons_succ, List.set_cons_zero, List.set_cons_succ, if_true, Bool.false_eq_true, if_false, reduceIte, List.contains_nil, List.contains_cons, Bool.not_false, Bool.not_true, Bool.and_true, Bool.true_and, Bool.and_false, Bool.or_false, Bool.false_or, Bool.false_and, Bool.true_or, Bool.or_true, addG_int, subI_int, eqG_int, neG_int, eqG_bl, neG_bl, cmpI_int, intG, lenG, absG, List.length_cons, sizeLine_eq, Nat.reduceLeDiff, Nat.reduceLT, Nat.zero_le, Nat.zero_add, List.length_nil, Nat.reduceAdd, beq_self_eq_true, Nat.reduceBEq, reduceCtorEq, Nat.reduceEqDiff, bd_ok, bd_bad, bd_err, x_nopS, x_badS, x_bkS, x_ctS, x_ifM, x_ifS, x_dropS, x_retS, x_retR_v, x_retR_fr, x_retR_al, x_retN, x_setS, x_setR_v, x_setR_fr, x_setR_al, x_varM, x_litM, x_liftO_v, x_liftO_fr, x_liftO_n, x_bin2, x_peek2, x_un1, x_asB, x_toB, x_andM, x_orM, x_notM, x_andV, x_orV, x_notV, x_nilA, x_consA, x_nilV, x_consV, x_tupM, x_lstM, x_callM, x_toV, x_toP, x_toPr_v, x_toPr_fr, x_toPr_al, callR_ok, x_callF, x_isaM, x_chainM, x_noPartM, x_partM, x_sliceM, x_setIx, x_mutM, x_mutK, x_par2, x_par3, x_asgS, x_setD, x_tupG, x_consG, x_nilG, x_seqN, x_enumN, x_seqV, x_enumI, x_zipI, x_rng1, x_rng2, x_sortSetM, x_rgM, kt_NoneType_int, kt_NoneType_bool, kt_NoneType_str, kt_NoneType_tuple, kt_NoneType_list, kt_NoneType_dict, kt_bool_int, kt_bool_bool, kt_bool_str, kt_bool_tuple, kt_bool_list, kt_bool_dict, kt_int_int, kt_int_bool, kt_int_str, kt_int_tuple, kt_int_list, kt_int_dict, kt_str_int, kt_str_bool, kt_str_str, kt_str_tuple, kt_str_list, kt_str_dict, kt_tuple_int, kt_tuple_bool, kt_tuple_str, kt_tuple_tuple, kt_tuple_list, kt_tuple_dict, kt_list_int, kt_list_bool, kt_list_str, kt_list_tuple, kt_list_list, kt_list_dict, Int.reduceLE, Int.reduceSub, Int.reduceToNat, Int.reduceNeg, and_self, true_and, and_true, encW, encC, isG_tup, tells, inG_tints, h1, decide_true]
    · by_cases h2 : c ∈ w.2
      · simp only [x_free0, x_freeS, free1_v, free1_no, free1_own, peek, peekL, thaw, argSls, argSl, als, nodup?, putBack, stepBack, tyOf, mutK, shOk, plainR, outs, x_seqS, List.replicate, List.append_nil, List.nil_append, List.cons_append, List.getElem?_cons_zero, List.getElem?_cons_succ, List.set_cons_zero, List.set_cons_succ, if_true, Bool.false_eq_true, if_false, reduceIte, List.contains_nil, List.contains_cons, Bool.not_false, Bool.not_true, Bool.and_true, Bool.true_and, Bool.and_false, Bool.or_false, Bool.false_or, Bool.false_and, Bool.true_or, Bool.or_true, addG_int, subI_int, eqG_int, neG_int, eqG_bl, neG_bl, cmpI_int, intG, lenG, absG, List.length_cons, sizeLine_eq, Nat.reduceLeDiff, Nat.reduceLT, Nat.zero_le, Nat.zero_add, List.length_nil, Nat.reduceAdd, beq_self_eq_true, Nat.reduceBEq, reduceCtorEq, Nat.reduceEqDiff, bd_ok, bd_bad, bd_err, x_nopS, x_badS, x_bkS, x_ctS, x_ifM, x_ifS, x_dropS, x_retS, x_retR_v, x_retR_fr, x_retR_al, x_retN, x_setS, x_setR_v, x_setR_fr, x_setR_al, x_varM, x_litM, x_liftO_v, x_liftO_fr, x_liftO_n, x_bin2, x_peek2, x_un1, x_asB, x_toB, x_andM, x_orM, x_notM, x_andV, x_orV, x_notV, x_nilA, x_consA, x_nilV, x_consV, x_tupM, x_lstM, x_callM, x_toV, x_toP, x_toPr_v, x_toPr_fr, x_toPr_al, callR_ok, x_callF, x_isaM, x_chainM, x_noPartM, x_partM, x_sliceM, x_setIx, x_mutM, x_mutK, x_par2, x_par3, x_asgS, x_setD, x_tupG, x_consG, x_nilG, x_seqN, x_enumN, x_seqV, x_enumI, x_zipI, x_rng1, x_rng2, x_sortSetM, x_rgM, kt_NoneType_int, kt_NoneType_bool, kt_NoneType_str, kt_NoneType_tuple, kt_NoneType_list, kt_NoneType_dict, kt_bool_int, kt_bool_bool, kt_bool_str, kt_bool_tuple, kt_bool_list, kt_bool_dict, kt_int_int, kt_int_bool, kt_int_str, kt_int_tuple, kt_int_list, kt_int_dict, kt_str_int, kt_str_bool, kt_str_str, kt_str_tuple, kt_str_list, kt_str_dict, kt_tuple_int, kt_tuple_bool, kt_tuple_str, kt_tuple_tuple, kt_tuple_list, kt_tuple_dict, kt_list_int, kt_list_bool, kt_list_str, kt_list_tuple, kt_list_list, kt_list_dict, Int.reduceLE, Int.reduceSub, Int.reduceToNat, Int.reduceNeg, and_self, true_and, and_true, encW, encC, isG_tup, tells, inG_tints, h1, h2, decide_true, decide_false]
      · simp only [x_free0, x_freeS, free1_v, free1_no, free1_own, peek, peekL, thaw, argSls, argSl, als, nodup?, putBack, stepBack, tyOf, mutK, shOk, plainR, outs, x_seqS, List.replicate, List.append_nil, List.nil_append, List.cons_append, List.getElem?_cons_zero, List.getElem?_cons_succ, List.set_cons_zero, List.set_cons_succ, if_true, Bool.false_eq_true, if_false, reduceIte, List.contains_nil, List.contains_cons, Bool.not_false, Bool.not_true, Bool.and_true, Bool.true_and, Bool.and_false, Bool.or_false, Bool.false_or, Bool.false_and, Bool.true_or, Bool.or_true, addG_int, subI_int, eqG_int, neG_int, eqG_bl, neG_bl, cmpI_int, intG, lenG, absG, List.length_cons, sizeLine_eq, Nat.reduceLeDiff, Nat.reduceLT, Nat.zero_le, Nat.zero_add, List.length_nil, Nat.reduceAdd, beq_self_eq_true, Nat.reduceBEq, reduceCtorEq, Nat.reduceEqDiff, bd_ok, bd_bad, bd_err, x_nopS, x_badS, x_bkS, x_ctS, x_ifM, x_ifS, x_dropS, x_retS, x_retR_v, x_retR_fr, x_retR_al, x_retN, x_setS, x_setR_v, x_setR_fr, x_setR_al, x_varM, x_litM, x_liftO_v, x_liftO_fr, x_liftO_n, x_bin2, x_peek2, x_un1, x_asB, x_toB, x_andM, x_orM, x_notM, x_andV, x_orV, x_notV, x_nilA, x_consA, x_nilV, x_consV, x_tupM, x_lstM, x_callM, x_toV, x_toP, x_toPr_v, x_toPr_fr, x_toPr_al, callR_ok, x_callF, x_isaM, x_chainM, x_noPartM, x_partM, x_sliceM, x_setIx, x_mutM, x_mutK, x_par2, x_par3, x_asgS, x_setD, x_tupG, x_consG, x_nilG, x_seqN, x_enumN, x_seqV, x_enumI, x_zipI, x_rng1, x_rng2, x_sortSetM, x_rgM, kt_NoneType_int, kt_NoneType_bool, kt_NoneType_str, kt_NoneType_tuple, kt_NoneType_list, kt_NoneType_dict, kt_bool_int, kt_bool_bool, kt_bool_str, kt_bool_tuple, kt_bool_list, kt_bool_dict, kt_int_int, kt_int_bool, kt_int_str, kt_int_tuple, kt_int_list, kt_int_dict, kt_str_int, kt_str_bool, kt_str_str, kt_str_tuple, kt_str_list, kt_str_dict, kt_tuple_int, kt_tuple_bool, kt_tuple_str, kt_tuple_tuple, kt_tuple_list, kt_tuple_dict, kt_list_int, kt_list_bool, kt_list_str, kt_list_tuple, kt_list_list, kt_list_dict, Int.reduceLE, Int.reduceSub, Int.reduceToNat, Int.reduceNeg, and_self, true_and, and_true, encW, encC, isG_tup, tells, inG_tints, h1, h2, decide_false]
theorem cut_tail (l : List Int) : Fw.cutD (intL l) (some 1) none = intL (l.drop 1) := by
  unfold Fw.cutD intL
  rw [show HT.sIx (l.map D.int).length 0 (some 1) = min 1 (l.map D.int).length from HT.sIx_nat _ 0 1, show HT.sIx (l.map D.int).length (l.map D.int).length none = (l.map D.int).length from rfl, List.length_map]
  cases l with
  | nil => rfl
  | cons x r =>
    rw [show min 1 (x :: r).length = 1 by rw [List.length_cons]; omega]
    simp [List.take_of_length_le]
theorem pw_zip : ∀ {l : List Int}, l.Pairwise (· < ·) → ∀ z ∈ zipL (intL l) (intL (l.drop 1)), ∃ a b, z = .tup [.int a, .int b] ∧ a < b
  | [], _, z, hz => by simp [zipL, intL] at hz
  | [x], _, z, hz => by simp [zipL, intL] at hz
  | x :: y :: r, h, z, hz => by
    have hz : z ∈ D.tup [.int x, .int y] :: zipL (intL (y :: r)) (intL ((y :: r).drop 1)) := hz
    rcases List.mem_cons.mp hz with rfl | hz
    · exact ⟨x, y, rfl, (List.pairwise_cons.mp h).1 y List.mem_cons_self⟩
    · exact pw_zip (List.pairwise_cons.mp h).2 z hz
theorem all_mapT {α : Type} (l : List α) : allG [.lst (l.map fun _ => D.bl true)] = some (.v (.bl true)) := by
  have : l.map (fun _ => D.bl true) = (l.map fun _ => true).map D.bl := by rw [List.map_map]; rfl
  rw [this, bools_all]
  simp
theorem any_mapF {α : Type} (l : List α) : anyG [.lst (l.map fun _ => D.bl false)] = some (.v (.bl false)) := by
  have : l.map (fun _ => D.bl false) = (l.map fun _ => false).map D.bl := by rw [List.map_map]; rfl
  rw [this, bools_any]
  simp
theorem is_lot_ok {n : Nat} {l : List Int} (h : ∀ x ∈ l, 0 ≤ x ∧ x ≤ n - 1) (hs : l.Pairwise (· < ·)) : F_is_lot [.v (.tup (intL l)), .v (.int n)] = .ok (.v (.bl true)) [.v (.tup (intL l)), .v (.int n)] := by
  have lc1 := lcM_none' (src := seqN 0) (vs := [2]) (g := setD 2) (ft := yesM) (fe := toV (callF F_is_within (consA (varM 2) (consA (litM (.int 0)) (consA (toP (bin2 subI (varM 1) (litM (.int 1)))) nilA))))) (en := [.v (.tup (intL l)), .v (.int n), .no, .no]) (en1 := [.v (.tup (intL l)), .v (.int n), .no, .no]) (ds := intL l) (r := (intL l).map fun _ => .bl true) (by simp only [x_free0, x_freeS, free1_v, free1_no, free1_own, peek, peekL, thaw, argSls, argSl, als, nodup?, putBack, stepBack, tyOf, mutK, shOk, plainR, outs, x_seqS, List.replicate, List.append_nil, List.nil_append, List.cons_append, List.getElem?_cons_zero, List.getElem?_cons_succ, List.set_cons_zero, List.set_cons_succ, if_true, Bool.false_eq_true, if_false, reduceIte, List.contains_nil, List.contains_cons, Bool.not_false, Bool.not_true, Bool.and_true, Bool.true_and, Bool.and_false, Bool.or_false, Bool.false_or, Bool.false_and, Bool.true_or, Bool.or_true, addG_int, subI_int, eqG_int, neG_int, eqG_bl, neG_bl, cmpI_int, intG, lenG, absG, List.length_cons, sizeLine_eq, Nat.reduceLeDiff, Nat.reduceLT, Nat.zero_le, Nat.zero_add, List.length_nil, Nat.reduceAdd, beq_self_eq_true, Nat.reduceBEq, reduceCtorEq, Nat.reduceEqDiff, bd_ok, bd_bad, bd_err, x_nopS, x_badS, x_bkS, x_ctS, x_ifM, x_ifS, x_dropS, x_retS, x_retR_v, x_retR_fr, x_retR_al, x_retN, x_setS, x_setR_v, x_setR_fr, x_setR_al, x_varM, x_litM, x_liftO_v, x_liftO_fr, x_liftO_n, x_bin2, x_peek2, x_un1, x_asB, x_toB, x_andM, x_orM, x_notM, x_andV, x_orV, x_notV, x_nilA, x_consA, x_nilV, x_consV, x_tupM, x_lstM, x_callM, x_toV, x_toP, x_toPr_v, x_toPr_fr, x_toPr_al, callR_ok, x_callF, x_isaM, x_chainM, x_noPartM, x_partM, x_sliceM, x_setIx, x_mutM, x_mutK, x_par2, x_par3, x_asgS, x_setD, x_tupG, x_consG, x_nilG, x_seqN, x_enumN, x_seqV, x_enumI, x_zipI, x_rng1, x_rng2, x_sortSetM, x_rgM, kt_NoneType_int, kt_NoneType_bool, kt_NoneType_str, kt_NoneType_tuple, kt_NoneType_list, kt_NoneType_dict, kt_bool_int, kt_bool_bool, kt_bool_str, kt_bool_tuple, kt_bool_list, kt_bool_dict, kt_int_int, kt_int_bool, kt_int_str, kt_int_tuple, kt_int_list, kt_int_dict, kt_str_int, kt_str_bool, kt_str_str, kt_str_tuple, kt_str_list, kt_str_dict, kt_tuple_int, kt_tuple_bool, kt_tuple_str, kt_tuple_tuple, kt_tuple_list, kt_tuple_dict, kt_list_int, kt_list_bool, kt_list_str, kt_list_tuple, kt_list_list, kt_list_dict, Int.reduceLE, Int.reduceSub, Int.reduceToNat, Int.reduceNeg, and_self, true_and, and_true]) (lcL_map _ fun d hd => by
    obtain ⟨x, hx, rfl⟩ := List.mem_map.mp hd
    obtain ⟨a, b⟩ := h x hx
    have hq := within_int x 0 (n - 1)
    rw [decide_eq_true a, decide_eq_true b] at hq
    refine ⟨[.v (.tup (intL l)), .v (.int n), .v (.int x), .no], [.v (.tup (intL l)), .v (.int n), .v (.int x), .no], ?_, ?_, rfl⟩
    · simp only [x_free0, x_freeS, free1_v, free1_no, free1_own, peek, peekL, thaw, argSls, argSl, als, nodup?, putBack, stepBack, tyOf, mutK, shOk, plainR, outs, x_seqS, List.replicate, List.append_nil, List.nil_append, List.cons_append, List.getElem?_cons_zero, List.getElem?_cons_succ, List.set_cons_zero, List.set_cons_succ, if_true, Bool.false_eq_true, if_false, reduceIte, List.contains_nil, List.contains_cons, Bool.not_false, Bool.not_true, Bool.and_true, Bool.true_and, Bool.and_false, Bool.or_false, Bool.false_or, Bool.false_and, Bool.true_or, Bool.or_true, addG_int, subI_int, eqG_int, neG_int, eqG_bl, neG_bl, cmpI_int, intG, lenG, absG, List.length_cons, sizeLine_eq, Nat.reduceLeDiff, Nat.reduceLT, Nat.zero_le, Nat.zero_add, List.length_nil, Nat.reduceAdd, beq_self_eq_true, Nat.reduceBEq, reduceCtorEq, Nat.reduceEqDiff, bd_ok, bd_bad, bd_err, x_nopS, x_badS, x_bkS, x_ctS, x_ifM, x_ifS, x_dropS, x_retS, x_retR_v, x_retR_fr, x_retR_al, x_retN, x_setS, x_setR_v, x_setR_fr, x_setR_al, x_varM, x_litM, x_liftO_v, x_liftO_fr, x_liftO_n, x_bin2, x_peek2, x_un1, x_asB, x_toB, x_andM, x_orM, x_notM, x_andV, x_orV, x_notV, x_nilA, x_consA, x_nilV, x_consV, x_tupM, x_lstM, x_callM, x_toV, x_toP, x_toPr_v, x_toPr_fr, x_toPr_al, callR_ok, x_callF, x_isaM, x_chainM, x_noPartM, x_partM, x_sliceM, x_setIx, x_mutM, x_mutK, x_par2, x_par3, x_asgS, x_setD, x_tupG, x_consG, x_nilG, x_seqN, x_enumN, x_seqV, x_enumI, x_zipI, x_rng1, x_rng2, x_sortSetM, x_rgM, kt_NoneType_int, kt_NoneType_bool, kt_NoneType_str, kt_NoneType_tuple, kt_NoneType_list, kt_NoneType_dict, kt_bool_int, kt_bool_bool, kt_bool_str, kt_bool_tuple, kt_bool_list, kt_bool_dict, kt_int_int, kt_int_bool, kt_int_str, kt_int_tuple, kt_int_list, kt_int_dict, kt_str_int, kt_str_bool, kt_str_str, kt_str_tuple, kt_str_list, kt_str_dict, kt_tuple_int, kt_tuple_bool, kt_tuple_str, kt_tuple_tuple, kt_tuple_list, kt_tuple_dict, kt_list_int, kt_list_bool, kt_list_str, kt_list_tuple, kt_list_list, kt_list_dict, Int.reduceLE, Int.reduceSub, Int.reduceToNat, Int.reduceNeg, and_self, true_and, and_true, wipeE]
    · simp only [x_free0, x_freeS, free1_v, free1_no, free1_own, peek, peekL, thaw, argSls, argSl, als, nodup?, putBack, stepBack, tyOf, mutK, shOk, plainR, outs, x_seqS, List.replicate, List.append_nil, List.nil_append, List.cons_append, List.getElem?_cons_zero, List.getElem?_cons_succ, List.set_cons_zero, List.set_cons_succ, if_true, Bool.false_eq_true, if_false, reduceIte, List.contains_nil, List.contains_cons, Bool.not_false, Bool.not_true, Bool.and_true, Bool.true_and, Bool.and_false, Bool.or_false, Bool.false_or, Bool.false_and, Bool.true_or, Bool.or_true, addG_int, subI_int, eqG_int, neG_int, eqG_bl, neG_bl, cmpI_int, intG, lenG, absG, List.length_cons, sizeLine_eq, Nat.reduceLeDiff, Nat.reduceLT, Nat.zero_le, Nat.zero_add, List.length_nil, Nat.reduceAdd, beq_self_eq_true, Nat.reduceBEq, reduceCtorEq, Nat.reduceEqDiff, bd_ok, bd_bad, bd_err, x_nopS, x_badS, x_bkS, x_ctS, x_ifM, x_ifS, x_dropS, x_retS, x_retR_v, x_retR_fr, x_retR_al, x_retN, x_setS, x_setR_v, x_setR_fr, x_setR_al, x_varM, x_litM, x_liftO_v, x_liftO_fr, x_liftO_n, x_bin2, x_peek2, x_un1, x_asB, x_toB, x_andM, x_orM, x_notM, x_andV, x_orV, x_notV, x_nilA, x_consA, x_nilV, x_consV, x_tupM, x_lstM, x_callM, x_toV, x_toP, x_toPr_v, x_toPr_fr, x_toPr_al, callR_ok, x_callF, x_isaM, x_chainM, x_noPartM, x_partM, x_sliceM, x_setIx, x_mutM, x_mutK, x_par2, x_par3, x_asgS, x_setD, x_tupG, x_consG, x_nilG, x_seqN, x_enumN, x_seqV, x_enumI, x_zipI, x_rng1, x_rng2, x_sortSetM, x_rgM, kt_NoneType_int, kt_NoneType_bool, kt_NoneType_str, kt_NoneType_tuple, kt_NoneType_list, kt_NoneType_dict, kt_bool_int, kt_bool_bool, kt_bool_str, kt_bool_tuple, kt_bool_list, kt_bool_dict, kt_int_int, kt_int_bool, kt_int_str, kt_int_tuple, kt_int_list, kt_int_dict, kt_str_int, kt_str_bool, kt_str_str, kt_str_tuple, kt_str_list, kt_str_dict, kt_tuple_int, kt_tuple_bool, kt_tuple_str, kt_tuple_tuple, kt_tuple_list, kt_tuple_dict, kt_list_int, kt_list_bool, kt_list_str, kt_list_tuple, kt_list_list, kt_list_dict, Int.reduceLE, Int.reduceSub, Int.reduceToNat, Int.reduceNeg, and_self, true_and, and_true, hq])
  have lc2 := lcM_none' (src := zipI (consV (toV (varM 0)) (consV (toV (sliceM (varM 0) (partM (litM (.int 1))) noPartM)) nilV))) (vs := [2, 3]) (g := tupG 2 (consG (setD 2) (consG (setD 3) nilG))) (ft := yesM) (fe := toV (bin2 (cmpI fun i j => decide (i < j)) (varM 2) (varM 3))) (en := [.v (.tup (intL l)), .v (.int n), .no, .no]) (en1 := [.v (.tup (intL l)), .v (.int n), .no, .no]) (ds := zipL (intL l) (intL (l.drop 1))) (r := (zipL (intL l) (intL (l.drop 1))).map fun _ => .bl true) (by simp only [x_free0, x_freeS, free1_v, free1_no, free1_own, peek, peekL, thaw, argSls, argSl, als, nodup?, putBack, stepBack, tyOf, mutK, shOk, plainR, outs, x_seqS, List.replicate, List.append_nil, List.nil_append, List.cons_append, List.getElem?_cons_zero, List.getElem?_cons_succ, List.set_cons_zero, List.set_cons_succ, if_true, Bool.false_eq_true, if_false, reduceIte, List.contains_nil, List.contains_cons, Bool.not_false, Bool.not_true, Bool.and_true, Bool.true_and, Bool.and_false, Bool.or_false, Bool.false_or, Bool.false_and, Bool.true_or, Bool.or_true, addG_int, subI_int, eqG_int, neG_int, eqG_bl, neG_bl, cmpI_int, intG, lenG, absG, List.length_cons, sizeLine_eq, Nat.reduceLeDiff, Nat.reduceLT, Nat.zero_le, Nat.zero_add, List.length_nil, Nat.reduceAdd, beq_self_eq_true, Nat.reduceBEq, reduceCtorEq, Nat.reduceEqDiff, bd_ok, bd_bad, bd_err, x_nopS, x_badS, x_bkS, x_ctS, x_ifM, x_ifS, x_dropS, x_retS, x_retR_v, x_retR_fr, x_retR_al, x_retN, x_setS, x_setR_v, x_setR_fr, x_setR_al, x_varM, x_litM, x_liftO_v, x_liftO_fr, x_liftO_n, x_bin2, x_peek2, x_un1, x_asB, x_toB, x_andM, x_orM, x_notM, x_andV, x_orV, x_notV, x_nilA, x_consA, x_nilV, x_consV, x_tupM, x_lstM, x_callM, x_toV, x_toP, x_toPr_v, x_toPr_fr, x_toPr_al, callR_ok, x_callF, x_isaM, x_chainM, x_noPartM, x_partM, x_sliceM, x_setIx, x_mutM, x_mutK, x_par2, x_par3, x_asgS, x_setD, x_tupG, x_consG, x_nilG, x_seqN, x_enumN, x_seqV, x_enumI, x_zipI, x_rng1, x_rng2, x_sortSetM, x_rgM, kt_NoneType_int, kt_NoneType_bool, kt_NoneType_str, kt_NoneType_tuple, kt_NoneType_list, kt_NoneType_dict, kt_bool_int, kt_bool_bool, kt_bool_str, kt_bool_tuple, kt_bool_list, kt_bool_dict, kt_int_int, kt_int_bool, kt_int_str, kt_int_tuple, kt_int_list, kt_int_dict, kt_str_int, kt_str_bool, kt_str_str, kt_str_tuple, kt_str_list, kt_str_dict, kt_tuple_int, kt_tuple_bool, kt_tuple_str, kt_tuple_tuple, kt_tuple_list, kt_tuple_dict, kt_list_int, kt_list_bool, kt_list_str, kt_list_tuple, kt_list_list, kt_list_dict, Int.reduceLE, Int.reduceSub, Int.reduceToNat, Int.reduceNeg, and_self, true_and, and_true, cut_tail]) (lcL_map _ fun d hd => by
    obtain ⟨a, b, rfl, hab⟩ := pw_zip hs d hd
    refine ⟨[.v (.tup (intL l)), .v (.int n), .v (.int a), .v (.int b)], [.v (.tup (intL l)), .v (.int n), .v (.int a), .v (.int b)], ?_, ?_, rfl⟩
    · simp only [x_free0, x_freeS, free1_v, free1_no, free1_own, peek, peekL, thaw, argSls, argSl, als, nodup?, putBack, stepBack, tyOf, mutK, shOk, plainR, outs, x_seqS, List.replicate, List.append_nil, List.nil_append, List.cons_append, List.getElem?_cons_zero, List.getElem?_cons_succ, List.set_cons_zero, List.set_cons_succ, if_true, Bool.false_eq_true, if_false, reduceIte, List.contains_nil, List.contains_cons, Bool.not_false, Bool.not_true, Bool.and_true, Bool.true_and, Bool.and_false, Bool.or_false, Bool.false_or, Bool.false_and, Bool.true_or, Bool.or_true, addG_int, subI_int, eqG_int, neG_int, eqG_bl, neG_bl, cmpI_int, intG, lenG, absG, List.length_cons, sizeLine_eq, Nat.reduceLeDiff, Nat.reduceLT, Nat.zero_le, Nat.zero_add, List.length_nil, Nat.reduceAdd, beq_self_eq_true, Nat.reduceBEq, reduceCtorEq, Nat.reduceEqDiff, bd_ok, bd_bad, bd_err, x_nopS, x_badS, x_bkS, x_ctS, x_ifM, x_ifS, x_dropS, x_retS, x_retR_v, x_retR_fr, x_retR_al, x_retN, x_setS, x_setR_v, x_setR_fr, x_setR_al, x_varM, x_litM, x_liftO_v, x_liftO_fr, x_liftO_n, x_bin2, x_peek2, x_un1, x_asB, x_toB, x_andM, x_orM, x_notM, x_andV, x_orV, x_notV, x_nilA, x_consA, x_nilV, x_consV, x_tupM, x_lstM, x_callM, x_toV, x_toP, x_toPr_v, x_toPr_fr, x_toPr_al, callR_ok, x_callF, x_isaM, x_chainM, x_noPartM, x_partM, x_sliceM, x_setIx, x_mutM, x_mutK, x_par2, x_par3, x_asgS, x_setD, x_tupG, x_consG, x_nilG, x_seqN, x_enumN, x_seqV, x_enumI, x_zipI, x_rng1, x_rng2, x_sortSetM, x_rgM, kt_NoneType_int, kt_NoneType_bool, kt_NoneType_str, kt_NoneType_tuple, kt_NoneType_list, kt_NoneType_dict, kt_bool_int, kt_bool_bool, kt_bool_str, kt_bool_tuple, kt_bool_list, kt_bool_dict, kt_int_int, kt_int_bool, kt_int_str, kt_int_tuple, kt_int_list, kt_int_dict, kt_str_int, kt_str_bool, kt_str_str, kt_str_tuple, kt_str_list, kt_str_dict, kt_tuple_int, kt_tuple_bool, kt_tuple_str, kt_tuple_tuple, kt_tuple_list, kt_tuple_dict, kt_list_int, kt_list_bool, kt_list_str, kt_list_tuple, kt_list_list, kt_list_dict, Int.reduceLE, Int.reduceSub, Int.reduceToNat, Int.reduceNeg, and_self, true_and, and_true, wipeE]
    · simp only [x_free0, x_freeS, free1_v, free1_no, free1_own, peek, peekL, thaw, argSls, argSl, als, nodup?, putBack, stepBack, tyOf, mutK, shOk, plainR, outs, x_seqS, List.replicate, List.append_nil, List.nil_append, List.cons_append, List.getElem?_cons_zero, List.getElem?_cons_succ, List.set_cons_zero, List.set_cons_succ, if_true, Bool.false_eq_true, if_false, reduceIte, List.contains_nil, List.contains_cons, Bool.not_false, Bool.not_true, Bool.and_true, Bool.true_and, Bool.and_false, Bool.or_false, Bool.false_or, Bool.false_and, Bool.true_or, Bool.or_true, addG_int, subI_int, eqG_int, neG_int, eqG_bl, neG_bl, cmpI_int, intG, lenG, absG, List.length_cons, sizeLine_eq, Nat.reduceLeDiff, Nat.reduceLT, Nat.zero_le, Nat.zero_add, List.length_nil, Nat.reduceAdd, beq_self_eq_true, Nat.reduceBEq, reduceCtorEq, Nat.reduceEqDiff, bd_ok, bd_bad, bd_err, x_nopS, x_badS, x_bkS, x_ctS, x_ifM, x_ifS, x_dropS, x_retS, x_retR_v, x_retR_fr, x_retR_al, x_retN, x_setS, x_setR_v, x_setR_fr, x_setR_al, x_varM, x_litM, x_liftO_v, x_liftO_fr, x_liftO_n, x_bin2, x_peek2, x_un1, x_asB, x_toB, x_andM, x_orM, x_notM, x_andV, x_orV, x_notV, x_nilA, x_consA, x_nilV, x_consV, x_tupM, x_lstM, x_callM, x_toV, x_toP, x_toPr_v, x_toPr_fr, x_toPr_al, callR_ok, x_callF, x_isaM, x_chainM, x_noPartM, x_partM, x_sliceM, x_setIx, x_mutM, x_mutK, x_par2, x_par3, x_asgS, x_setD, x_tupG, x_consG, x_nilG, x_seqN, x_enumN, x_seqV, x_enumI, x_zipI, x_rng1, x_rng2, x_sortSetM, x_rgM, kt_NoneType_int, kt_NoneType_bool, kt_NoneType_str, kt_NoneType_tuple, kt_NoneType_list, kt_NoneType_dict, kt_bool_int, kt_bool_bool, kt_bool_str, kt_bool_tuple, kt_bool_list, kt_bool_dict, kt_int_int, kt_int_bool, kt_int_str, kt_int_tuple, kt_int_list, kt_int_dict, kt_str_int, kt_str_bool, kt_str_str, kt_str_tuple, kt_str_list, kt_str_dict, kt_tuple_int, kt_tuple_bool, kt_tuple_str, kt_tuple_tuple, kt_tuple_list, kt_tuple_dict, kt_list_int, kt_list_bool, kt_list_str, kt_list_tuple, kt_list_list, kt_list_dict, Int.reduceLE, Int.reduceSub, Int.reduceToNat, Int.reduceNeg, and_self, true_and, and_true, hab, decide_true])
  unfold F_is_lot fnD b_is_lot
  simp only [x_free0, x_freeS, free1_v, free1_no, free1_own, peek, peekL, thaw, argSls, argSl, als, nodup?, putBack, stepBack, tyOf, mutK, shOk, plainR, outs, x_seqS, List.replicate, List.append_nil, List.nil_append, List.cons_append, List.getElem?_cons_zero, List.getElem?_cons_succ, List.set_cons_zero, List.set_cons_succ, if_true, Bool.false_eq_true, if_false, reduceIte, List.contains_nil, List.contains_cons, Bool.not_false, Bool.not_true, Bool.and_true, Bool.true_and, Bool.and_false, Bool.or_false, Bool.false_or, Bool.false_and, Bool.true_or, Bool.or_true, addG_int, subI_int, eqG_int, neG_int, eqG_bl, neG_bl, cmpI_int, intG, lenG, absG, List.length_cons, sizeLine_eq, Nat.reduceLeDiff, Nat.reduceLT, Nat.zero_le, Nat.zero_add, List.length_nil, Nat.reduceAdd, beq_self_eq_true, Nat.reduceBEq, reduceCtorEq, Nat.reduceEqDiff, bd_ok, bd_bad, bd_err, x_nopS, x_badS, x_bkS, x_ctS, x_ifM, x_ifS, x_dropS, x_retS, x_retR_v, x_retR_fr, x_retR_al, x_retN, x_setS, x_setR_v, x_setR_fr, x_setR_al, x_varM, x_litM, x_liftO_v, x_liftO_fr, x_liftO_n, x_bin2, x_peek2, x_un1, x_asB, x_toB, x_andM, x_orM, x_notM, x_andV, x_orV, x_notV, x_nilA, x_consA, x_nilV, x_consV, x_tupM, x_lstM, x_callM, x_toV, x_toP, x_toPr_v, x_toPr_fr, x_toPr_al, callR_ok, x_callF, x_isaM, x_chainM, x_noPartM, x_partM, x_sliceM, x_setIx, x_mutM, x_mutK, x_par2, x_par3, x_asgS, x_setD, x_tupG, x_consG, x_nilG, x_seqN, x_enumN, x_seqV, x_enumI, x_zipI, x_rng1, x_rng2, x_sortSetM, x_rgM, kt_NoneType_int, kt_NoneType_bool, kt_NoneType_str, kt_NoneType_tuple, kt_NoneType_list, kt_NoneType_dict, kt_bool_int, kt_bool_bool, kt_bool_str, kt_bool_tuple, kt_bool_list, kt_bool_dict, kt_int_int, kt_int_bool, kt_int_str, kt_int_tuple, kt_int_list, kt_int_dict, kt_str_int, kt_str_bool, kt_str_str, kt_str_tuple, kt_str_list, kt_str_dict, kt_tuple_int, kt_tuple_bool, kt_tuple_str, kt_tuple_tuple, kt_tuple_list, kt_tuple_dict, kt_list_int, kt_list_bool, kt_list_str, kt_list_tuple, kt_list_list, kt_list_dict, Int.reduceLE, Int.reduceSub, Int.reduceToNat, Int.reduceNeg, and_self, true_and, and_true, lc1, lc2, all_mapT]
theorem is_weigh_ok {n : Nat} {w : Wg} (h : WOk n w) : F_is_weighing [.v (.int n), .v (encW w)] = .ok (.v (.bl true)) [.v (.int n), .v (encW w)] := by
  have tl := tuple_ok [.tup (intL w.1), .tup (intL w.2)] 2 2 (by simp) (by simp)
  have i1 := is_lot_ok h.a1 h.s1
  have i2 := is_lot_ok h.a2 h.s2
  have g1 : decide (((intL w.1).length : Int) > 0) = true := decide_eq_true (by have := h.p1; simp [intL]; omega)
  have g2 : decide (((intL w.2).length : Int) > 0) = true := decide_eq_true (by have := h.p2; simp [intL]; omega)
  have e : (((intL w.1).length : Int) == ((intL w.2).length : Int)) = true := by rw [beq_iff_eq]; have := h.le; simp [intL]; omega
  have lc1 := lcM_none' (src := seqN 1) (vs := [2]) (g := setD 2) (ft := yesM) (fe := toV (andV (callF F_is_lot (consA (varM 2) (consA (varM 0) nilA))) (bin2 (cmpI fun i j => decide (i > j)) (callM lenG (consA (varM 2) nilA)) (litM (.int 0))))) (en := [.v (.int n), .v (encW w), .no, .no]) (en1 := [.v (.int n), .v (encW w), .no, .no]) (ds := [.tup (intL w.1), .tup (intL w.2)]) (r := [D.tup (intL w.1), D.tup (intL w.2)].map fun _ => .bl true) (by simp only [x_free0, x_freeS, free1_v, free1_no, free1_own, peek, peekL, thaw, argSls, argSl, als, nodup?, putBack, stepBack, tyOf, mutK, shOk, plainR, outs, x_seqS, List.replicate, List.append_nil, List.nil_append, List.cons_append, List.getElem?_cons_zero, List.getElem?_cons_succ, List.set_cons_zero, List.set_cons_succ, if_true, Bool.false_eq_true, if_false, reduceIte, List.contains_nil, List.contains_cons, Bool.not_false, Bool.not_true, Bool.and_true, Bool.true_and, Bool.and_false, Bool.or_false, Bool.false_or, Bool.false_and, Bool.true_or, Bool.or_true, addG_int, subI_int, eqG_int, neG_int, eqG_bl, neG_bl, cmpI_int, intG, lenG, absG, List.length_cons, sizeLine_eq, Nat.reduceLeDiff, Nat.reduceLT, Nat.zero_le, Nat.zero_add, List.length_nil, Nat.reduceAdd, beq_self_eq_true, Nat.reduceBEq, reduceCtorEq, Nat.reduceEqDiff, bd_ok, bd_bad, bd_err, x_nopS, x_badS, x_bkS, x_ctS, x_ifM, x_ifS, x_dropS, x_retS, x_retR_v, x_retR_fr, x_retR_al, x_retN, x_setS, x_setR_v, x_setR_fr, x_setR_al, x_varM, x_litM, x_liftO_v, x_liftO_fr, x_liftO_n, x_bin2, x_peek2, x_un1, x_asB, x_toB, x_andM, x_orM, x_notM, x_andV, x_orV, x_notV, x_nilA, x_consA, x_nilV, x_consV, x_tupM, x_lstM, x_callM, x_toV, x_toP, x_toPr_v, x_toPr_fr, x_toPr_al, callR_ok, x_callF, x_isaM, x_chainM, x_noPartM, x_partM, x_sliceM, x_setIx, x_mutM, x_mutK, x_par2, x_par3, x_asgS, x_setD, x_tupG, x_consG, x_nilG, x_seqN, x_enumN, x_seqV, x_enumI, x_zipI, x_rng1, x_rng2, x_sortSetM, x_rgM, kt_NoneType_int, kt_NoneType_bool, kt_NoneType_str, kt_NoneType_tuple, kt_NoneType_list, kt_NoneType_dict, kt_bool_int, kt_bool_bool, kt_bool_str, kt_bool_tuple, kt_bool_list, kt_bool_dict, kt_int_int, kt_int_bool, kt_int_str, kt_int_tuple, kt_int_list, kt_int_dict, kt_str_int, kt_str_bool, kt_str_str, kt_str_tuple, kt_str_list, kt_str_dict, kt_tuple_int, kt_tuple_bool, kt_tuple_str, kt_tuple_tuple, kt_tuple_list, kt_tuple_dict, kt_list_int, kt_list_bool, kt_list_str, kt_list_tuple, kt_list_list, kt_list_dict, Int.reduceLE, Int.reduceSub, Int.reduceToNat, Int.reduceNeg, and_self, true_and, and_true, encW]) (lcL_map _ fun d hd => by
    simp only [List.mem_cons, List.not_mem_nil, or_false] at hd
    rcases hd with rfl | rfl
    · refine ⟨[.v (.int n), .v (encW w), .v (.tup (intL w.1)), .no], [.v (.int n), .v (encW w), .v (.tup (intL w.1)), .no], ?_, ?_, rfl⟩
      · simp only [x_free0, x_freeS, free1_v, free1_no, free1_own, peek, peekL, thaw, argSls, argSl, als, nodup?, putBack, stepBack, tyOf, mutK, shOk, plainR, outs, x_seqS, List.replicate, List.append_nil, List.nil_append, List.cons_append, List.getElem?_cons_zero, List.getElem?_cons_succ, List.set_cons_zero, List.set_cons_succ, if_true, Bool.false_eq_true, if_false, reduceIte, List.contains_nil, List.contains_cons, Bool.not_false, Bool.not_true, Bool.and_true, Bool.true_and, Bool.and_false, Bool.or_false, Bool.false_or, Bool.false_and, Bool.true_or, Bool.or_true, addG_int, subI_int, eqG_int, neG_int, eqG_bl, neG_bl, cmpI_int, intG, lenG, absG, List.length_cons, sizeLine_eq, Nat.reduceLeDiff, Nat.reduceLT, Nat.zero_le, Nat.zero_add, List.length_nil, Nat.reduceAdd, beq_self_eq_true, Nat.reduceBEq, reduceCtorEq, Nat.reduceEqDiff, bd_ok, bd_bad, bd_err, x_nopS, x_badS, x_bkS, x_ctS, x_ifM, x_ifS, x_dropS, x_retS, x_retR_v, x_retR_fr, x_retR_al, x_retN, x_setS, x_setR_v, x_setR_fr, x_setR_al, x_varM, x_litM, x_liftO_v, x_liftO_fr, x_liftO_n, x_bin2, x_peek2, x_un1, x_asB, x_toB, x_andM, x_orM, x_notM, x_andV, x_orV, x_notV, x_nilA, x_consA, x_nilV, x_consV, x_tupM, x_lstM, x_callM, x_toV, x_toP, x_toPr_v, x_toPr_fr, x_toPr_al, callR_ok, x_callF, x_isaM, x_chainM, x_noPartM, x_partM, x_sliceM, x_setIx, x_mutM, x_mutK, x_par2, x_par3, x_asgS, x_setD, x_tupG, x_consG, x_nilG, x_seqN, x_enumN, x_seqV, x_enumI, x_zipI, x_rng1, x_rng2, x_sortSetM, x_rgM, kt_NoneType_int, kt_NoneType_bool, kt_NoneType_str, kt_NoneType_tuple, kt_NoneType_list, kt_NoneType_dict, kt_bool_int, kt_bool_bool, kt_bool_str, kt_bool_tuple, kt_bool_list, kt_bool_dict, kt_int_int, kt_int_bool, kt_int_str, kt_int_tuple, kt_int_list, kt_int_dict, kt_str_int, kt_str_bool, kt_str_str, kt_str_tuple, kt_str_list, kt_str_dict, kt_tuple_int, kt_tuple_bool, kt_tuple_str, kt_tuple_tuple, kt_tuple_list, kt_tuple_dict, kt_list_int, kt_list_bool, kt_list_str, kt_list_tuple, kt_list_list, kt_list_dict, Int.reduceLE, Int.reduceSub, Int.reduceToNat, Int.reduceNeg, and_self, true_and, and_true, wipeE]
      · simp only [x_free0, x_freeS, free1_v, free1_no, free1_own, peek, peekL, thaw, argSls, argSl, als, nodup?, putBack, stepBack, tyOf, mutK, shOk, plainR, outs, x_seqS, List.replicate, List.append_nil, List.nil_append, List.cons_append, List.getElem?_cons_zero, List.getElem?_cons_succ, List.set_cons_zero, List.set_cons_succ, if_true, Bool.false_eq_true, if_false, reduceIte, List.contains_nil, List.contains_cons, Bool.not_false, Bool.not_true, Bool.and_true, Bool.true_and, Bool.and_false, Bool.or_false, Bool.false_or, Bool.false_and, Bool.true_or, Bool.or_true, addG_int, subI_int, eqG_int, neG_int, eqG_bl, neG_bl, cmpI_int, intG, lenG, absG, List.length_cons, sizeLine_eq, Nat.reduceLeDiff, Nat.reduceLT, Nat.zero_le, Nat.zero_add, List.length_nil, Nat.reduceAdd, beq_self_eq_true, Nat.reduceBEq, reduceCtorEq, Nat.reduceEqDiff, bd_ok, bd_bad, bd_err, x_nopS, x_badS, x_bkS, x_ctS, x_ifM, x_ifS, x_dropS, x_retS, x_retR_v, x_retR_fr, x_retR_al, x_retN, x_setS, x_setR_v, x_setR_fr, x_setR_al, x_varM, x_litM, x_liftO_v, x_liftO_fr, x_liftO_n, x_bin2, x_peek2, x_un1, x_asB, x_toB, x_andM, x_orM, x_notM, x_andV, x_orV, x_notV, x_nilA, x_consA, x_nilV, x_consV, x_tupM, x_lstM, x_callM, x_toV, x_toP, x_toPr_v, x_toPr_fr, x_toPr_al, callR_ok, x_callF, x_isaM, x_chainM, x_noPartM, x_partM, x_sliceM, x_setIx, x_mutM, x_mutK, x_par2, x_par3, x_asgS, x_setD, x_tupG, x_consG, x_nilG, x_seqN, x_enumN, x_seqV, x_enumI, x_zipI, x_rng1, x_rng2, x_sortSetM, x_rgM, kt_NoneType_int, kt_NoneType_bool, kt_NoneType_str, kt_NoneType_tuple, kt_NoneType_list, kt_NoneType_dict, kt_bool_int, kt_bool_bool, kt_bool_str, kt_bool_tuple, kt_bool_list, kt_bool_dict, kt_int_int, kt_int_bool, kt_int_str, kt_int_tuple, kt_int_list, kt_int_dict, kt_str_int, kt_str_bool, kt_str_str, kt_str_tuple, kt_str_list, kt_str_dict, kt_tuple_int, kt_tuple_bool, kt_tuple_str, kt_tuple_tuple, kt_tuple_list, kt_tuple_dict, kt_list_int, kt_list_bool, kt_list_str, kt_list_tuple, kt_list_list, kt_list_dict, Int.reduceLE, Int.reduceSub, Int.reduceToNat, Int.reduceNeg, and_self, true_and, and_true, i1, g1]
    · refine ⟨[.v (.int n), .v (encW w), .v (.tup (intL w.2)), .no], [.v (.int n), .v (encW w), .v (.tup (intL w.2)), .no], ?_, ?_, rfl⟩
      · simp only [x_free0, x_freeS, free1_v, free1_no, free1_own, peek, peekL, thaw, argSls, argSl, als, nodup?, putBack, stepBack, tyOf, mutK, shOk, plainR, outs, x_seqS, List.replicate, List.append_nil, List.nil_append, List.cons_append, List.getElem?_cons_zero, List.getElem?_cons_succ, List.set_cons_zero, List.set_cons_succ, if_true, Bool.false_eq_true, if_false, reduceIte, List.contains_nil, List.contains_cons, Bool.not_false, Bool.not_true, Bool.and_true, Bool.true_and, Bool.and_false, Bool.or_false, Bool.false_or, Bool.false_and, Bool.true_or, Bool.or_true, addG_int, subI_int, eqG_int, neG_int, eqG_bl, neG_bl, cmpI_int, intG, lenG, absG, List.length_cons, sizeLine_eq, Nat.reduceLeDiff, Nat.reduceLT, Nat.zero_le, Nat.zero_add, List.length_nil, Nat.reduceAdd, beq_self_eq_true, Nat.reduceBEq, reduceCtorEq, Nat.reduceEqDiff, bd_ok, bd_bad, bd_err, x_nopS, x_badS, x_bkS, x_ctS, x_ifM, x_ifS, x_dropS, x_retS, x_retR_v, x_retR_fr, x_retR_al, x_retN, x_setS, x_setR_v, x_setR_fr, x_setR_al, x_varM, x_litM, x_liftO_v, x_liftO_fr, x_liftO_n, x_bin2, x_peek2, x_un1, x_asB, x_toB, x_andM, x_orM, x_notM, x_andV, x_orV, x_notV, x_nilA, x_consA, x_nilV, x_consV, x_tupM, x_lstM, x_callM, x_toV, x_toP, x_toPr_v, x_toPr_fr, x_toPr_al, callR_ok, x_callF, x_isaM, x_chainM, x_noPartM, x_partM, x_sliceM, x_setIx, x_mutM, x_mutK, x_par2, x_par3, x_asgS, x_setD, x_tupG, x_consG, x_nilG, x_seqN, x_enumN, x_seqV, x_enumI, x_zipI, x_rng1, x_rng2, x_sortSetM, x_rgM, kt_NoneType_int, kt_NoneType_bool, kt_NoneType_str, kt_NoneType_tuple, kt_NoneType_list, kt_NoneType_dict, kt_bool_int, kt_bool_bool, kt_bool_str, kt_bool_tuple, kt_bool_list, kt_bool_dict, kt_int_int, kt_int_bool, kt_int_str, kt_int_tuple, kt_int_list, kt_int_dict, kt_str_int, kt_str_bool, kt_str_str, kt_str_tuple, kt_str_list, kt_str_dict, kt_tuple_int, kt_tuple_bool, kt_tuple_str, kt_tuple_tuple, kt_tuple_list, kt_tuple_dict, kt_list_int, kt_list_bool, kt_list_str, kt_list_tuple, kt_list_list, kt_list_dict, Int.reduceLE, Int.reduceSub, Int.reduceToNat, Int.reduceNeg, and_self, true_and, and_true, wipeE]
      · simp only [x_free0, x_freeS, free1_v, free1_no, free1_own, peek, peekL, thaw, argSls, argSl, als, nodup?, putBack, stepBack, tyOf, mutK, shOk, plainR, outs, x_seqS, List.replicate, List.append_nil, List.nil_append, List.cons_append, List.getElem?_cons_zero, List.getElem?_cons_succ, List.set_cons_zero, List.set_cons_succ, if_true, Bool.false_eq_true, if_false, reduceIte, List.contains_nil, List.contains_cons, Bool.not_false, Bool.not_true, Bool.and_true, Bool.true_and, Bool.and_false, Bool.or_false, Bool.false_or, Bool.false_and, Bool.true_or, Bool.or_true, addG_int, subI_int, eqG_int, neG_int, eqG_bl, neG_bl, cmpI_int, intG, lenG, absG, List.length_cons, sizeLine_eq, Nat.reduceLeDiff, Nat.reduceLT, Nat.zero_le, Nat.zero_add, List.length_nil, Nat.reduceAdd, beq_self_eq_true, Nat.reduceBEq, reduceCtorEq, Nat.reduceEqDiff, bd_ok, bd_bad, bd_err, x_nopS, x_badS, x_bkS, x_ctS, x_ifM, x_ifS, x_dropS, x_retS, x_retR_v, x_retR_fr, x_retR_al, x_retN, x_setS, x_setR_v, x_setR_fr, x_setR_al, x_varM, x_litM, x_liftO_v, x_liftO_fr, x_liftO_n, x_bin2, x_peek2, x_un1, x_asB, x_toB, x_andM, x_orM, x_notM, x_andV, x_orV, x_notV, x_nilA, x_consA, x_nilV, x_consV, x_tupM, x_lstM, x_callM, x_toV, x_toP, x_toPr_v, x_toPr_fr, x_toPr_al, callR_ok, x_callF, x_isaM, x_chainM, x_noPartM, x_partM, x_sliceM, x_setIx, x_mutM, x_mutK, x_par2, x_par3, x_asgS, x_setD, x_tupG, x_consG, x_nilG, x_seqN, x_enumN, x_seqV, x_enumI, x_zipI, x_rng1, x_rng2, x_sortSetM, x_rgM, kt_NoneType_int, kt_NoneType_bool, kt_NoneType_str, kt_NoneType_tuple, kt_NoneType_list, kt_NoneType_dict, kt_bool_int, kt_bool_bool, kt_bool_str, kt_bool_tuple, kt_bool_list, kt_bool_dict, kt_int_int, kt_int_bool, kt_int_str, kt_int_tuple, kt_int_list, kt_int_dict, kt_str_int, kt_str_bool, kt_str_str, kt_str_tuple, kt_str_list, kt_str_dict, kt_tuple_int, kt_tuple_bool, kt_tuple_str, kt_tuple_tuple, kt_tuple_list, kt_tuple_dict, kt_list_int, kt_list_bool, kt_list_str, kt_list_tuple, kt_list_list, kt_list_dict, Int.reduceLE, Int.reduceSub, Int.reduceToNat, Int.reduceNeg, and_self, true_and, and_true, i2, g2])
  have lc2 := lcM_none' (src := seqV (toV (bin2 ixG (varM 1) (litM (.int 0))))) (vs := [3]) (g := setD 3) (ft := yesM) (fe := toV (bin2 inG (varM 3) (bin2 ixG (varM 1) (litM (.int 1))))) (en := [.v (.int n), .v (encW w), .no, .no]) (en1 := [.v (.int n), .v (encW w), .no, .no]) (ds := intL w.1) (r := (intL w.1).map fun _ => .bl false) (by simp only [x_free0, x_freeS, free1_v, free1_no, free1_own, peek, peekL, thaw, argSls, argSl, als, nodup?, putBack, stepBack, tyOf, mutK, shOk, plainR, outs, x_seqS, List.replicate, List.append_nil, List.nil_append, List.cons_append, List.getElem?_cons_zero, List.getElem?_cons_succ, List.set_cons_zero, List.set_cons_succ, if_true, Bool.false_eq_true, if_false, reduceIte, List.contains_nil, List.contains_cons, Bool.not_false, Bool.not_true, Bool.and_true, Bool.true_and, Bool.and_false, Bool.or_false, Bool.false_or, Bool.false_and, Bool.true_or, Bool.or_true, addG_int, subI_int, eqG_int, neG_int, eqG_bl, neG_bl, cmpI_int, intG, lenG, absG, List.length_cons, sizeLine_eq, Nat.reduceLeDiff, Nat.reduceLT, Nat.zero_le, Nat.zero_add, List.length_nil, Nat.reduceAdd, beq_self_eq_true, Nat.reduceBEq, reduceCtorEq, Nat.reduceEqDiff, bd_ok, bd_bad, bd_err, x_nopS, x_badS, x_bkS, x_ctS, x_ifM, x_ifS, x_dropS, x_retS, x_retR_v, x_retR_fr, x_retR_al, x_retN, x_setS, x_setR_v, x_setR_fr, x_setR_al, x_varM, x_litM, x_liftO_v, x_liftO_fr, x_liftO_n, x_bin2, x_peek2, x_un1, x_asB, x_toB, x_andM, x_orM, x_notM, x_andV, x_orV, x_notV, x_nilA, x_consA, x_nilV, x_consV, x_tupM, x_lstM, x_callM, x_toV, x_toP, x_toPr_v, x_toPr_fr, x_toPr_al, callR_ok, x_callF, x_isaM, x_chainM, x_noPartM, x_partM, x_sliceM, x_setIx, x_mutM, x_mutK, x_par2, x_par3, x_asgS, x_setD, x_tupG, x_consG, x_nilG, x_seqN, x_enumN, x_seqV, x_enumI, x_zipI, x_rng1, x_rng2, x_sortSetM, x_rgM, kt_NoneType_int, kt_NoneType_bool, kt_NoneType_str, kt_NoneType_tuple, kt_NoneType_list, kt_NoneType_dict, kt_bool_int, kt_bool_bool, kt_bool_str, kt_bool_tuple, kt_bool_list, kt_bool_dict, kt_int_int, kt_int_bool, kt_int_str, kt_int_tuple, kt_int_list, kt_int_dict, kt_str_int, kt_str_bool, kt_str_str, kt_str_tuple, kt_str_list, kt_str_dict, kt_tuple_int, kt_tuple_bool, kt_tuple_str, kt_tuple_tuple, kt_tuple_list, kt_tuple_dict, kt_list_int, kt_list_bool, kt_list_str, kt_list_tuple, kt_list_list, kt_list_dict, Int.reduceLE, Int.reduceSub, Int.reduceToNat, Int.reduceNeg, and_self, true_and, and_true, encW, ix2_0]) (lcL_map _ fun d hd => by
    obtain ⟨x, hx, rfl⟩ := List.mem_map.mp hd
    have hn := h.dj x hx
    refine ⟨[.v (.int n), .v (encW w), .no, .v (.int x)], [.v (.int n), .v (encW w), .no, .v (.int x)], ?_, ?_, rfl⟩
    · simp only [x_free0, x_freeS, free1_v, free1_no, free1_own, peek, peekL, thaw, argSls, argSl, als, nodup?, putBack, stepBack, tyOf, mutK, shOk, plainR, outs, x_seqS, List.replicate, List.append_nil, List.nil_append, List.cons_append, List.getElem?_cons_zero, List.getElem?_cons_succ, List.set_cons_zero, List.set_cons_succ, if_true, Bool.false_eq_true, if_false, reduceIte, List.contains_nil, List.contains_cons, Bool.not_false, Bool.not_true, Bool.and_true, Bool.true_and, Bool.and_false, Bool.or_false, Bool.false_or, Bool.false_and, Bool.true_or, Bool.or_true, addG_int, subI_int, eqG_int, neG_int, eqG_bl, neG_bl, cmpI_int, intG, lenG, absG, List.length_cons, sizeLine_eq, Nat.reduceLeDiff, Nat.reduceLT, Nat.zero_le, Nat.zero_add, List.length_nil, Nat.reduceAdd, beq_self_eq_true, Nat.reduceBEq, reduceCtorEq, Nat.reduceEqDiff, bd_ok, bd_bad, bd_err, x_nopS, x_badS, x_bkS, x_ctS, x_ifM, x_ifS, x_dropS, x_retS, x_retR_v, x_retR_fr, x_retR_al, x_retN, x_setS, x_setR_v, x_setR_fr, x_setR_al, x_varM, x_litM, x_liftO_v, x_liftO_fr, x_liftO_n, x_bin2, x_peek2, x_un1, x_asB, x_toB, x_andM, x_orM, x_notM, x_andV, x_orV, x_notV, x_nilA, x_consA, x_nilV, x_consV, x_tupM, x_lstM, x_callM, x_toV, x_toP, x_toPr_v, x_toPr_fr, x_toPr_al, callR_ok, x_callF, x_isaM, x_chainM, x_noPartM, x_partM, x_sliceM, x_setIx, x_mutM, x_mutK, x_par2, x_par3, x_asgS, x_setD, x_tupG, x_consG, x_nilG, x_seqN, x_enumN, x_seqV, x_enumI, x_zipI, x_rng1, x_rng2, x_sortSetM, x_rgM, kt_NoneType_int, kt_NoneType_bool, kt_NoneType_str, kt_NoneType_tuple, kt_NoneType_list, kt_NoneType_dict, kt_bool_int, kt_bool_bool, kt_bool_str, kt_bool_tuple, kt_bool_list, kt_bool_dict, kt_int_int, kt_int_bool, kt_int_str, kt_int_tuple, kt_int_list, kt_int_dict, kt_str_int, kt_str_bool, kt_str_str, kt_str_tuple, kt_str_list, kt_str_dict, kt_tuple_int, kt_tuple_bool, kt_tuple_str, kt_tuple_tuple, kt_tuple_list, kt_tuple_dict, kt_list_int, kt_list_bool, kt_list_str, kt_list_tuple, kt_list_list, kt_list_dict, Int.reduceLE, Int.reduceSub, Int.reduceToNat, Int.reduceNeg, and_self, true_and, and_true, wipeE]
    · simp only [x_free0, x_freeS, free1_v, free1_no, free1_own, peek, peekL, thaw, argSls, argSl, als, nodup?, putBack, stepBack, tyOf, mutK, shOk, plainR, outs, x_seqS, List.replicate, List.append_nil, List.nil_append, List.cons_append, List.getElem?_cons_zero, List.getElem?_cons_succ, List.set_cons_zero, List.set_cons_succ, if_true, Bool.false_eq_true, if_false, reduceIte, List.contains_nil, List.contains_cons, Bool.not_false, Bool.not_true, Bool.and_true, Bool.true_and, Bool.and_false, Bool.or_false, Bool.false_or, Bool.false_and, Bool.true_or, Bool.or_true, addG_int, subI_int, eqG_int, neG_int, eqG_bl, neG_bl, cmpI_int, intG, lenG, absG, List.length_cons, sizeLine_eq, Nat.reduceLeDiff, Nat.reduceLT, Nat.zero_le, Nat.zero_add, List.length_nil, Nat.reduceAdd, beq_self_eq_true, Nat.reduceBEq, reduceCtorEq, Nat.reduceEqDiff, bd_ok, bd_bad, bd_err, x_nopS, x_badS, x_bkS, x_ctS, x_ifM, x_ifS, x_dropS, x_retS, x_retR_v, x_retR_fr, x_retR_al, x_retN, x_setS, x_setR_v, x_setR_fr, x_setR_al, x_varM, x_litM, x_liftO_v, x_liftO_fr, x_liftO_n, x_bin2, x_peek2, x_un1, x_asB, x_toB, x_andM, x_orM, x_notM, x_andV, x_orV, x_notV, x_nilA, x_consA, x_nilV, x_consV, x_tupM, x_lstM, x_callM, x_toV, x_toP, x_toPr_v, x_toPr_fr, x_toPr_al, callR_ok, x_callF, x_isaM, x_chainM, x_noPartM, x_partM, x_sliceM, x_setIx, x_mutM, x_mutK, x_par2, x_par3, x_asgS, x_setD, x_tupG, x_consG, x_nilG, x_seqN, x_enumN, x_seqV, x_enumI, x_zipI, x_rng1, x_rng2, x_sortSetM, x_rgM, kt_NoneType_int, kt_NoneType_bool, kt_NoneType_str, kt_NoneType_tuple, kt_NoneType_list, kt_NoneType_dict, kt_bool_int, kt_bool_bool, kt_bool_str, kt_bool_tuple, kt_bool_list, kt_bool_dict, kt_int_int, kt_int_bool, kt_int_str, kt_int_tuple, kt_int_list, kt_int_dict, kt_str_int, kt_str_bool, kt_str_str, kt_str_tuple, kt_str_list, kt_str_dict, kt_tuple_int, kt_tuple_bool, kt_tuple_str, kt_tuple_tuple, kt_tuple_list, kt_tuple_dict, kt_list_int, kt_list_bool, kt_list_str, kt_list_tuple, kt_list_list, kt_list_dict, Int.reduceLE, Int.reduceSub, Int.reduceToNat, Int.reduceNeg, and_self, true_and, and_true, encW, ix2_1, inG_tints, hn, decide_false])
  simp only [encW] at lc1 lc2 ⊢
  unfold F_is_weighing fnD b_is_weighing
  simp only [x_free0, x_freeS, free1_v, free1_no, free1_own, peek, peekL, thaw, argSls, argSl, als, nodup?, putBack, stepBack, tyOf, mutK, shOk, plainR, outs, x_seqS, List.replicate, List.append_nil, List.nil_append, List.cons_append, List.getElem?_cons_zero, List.getElem?_cons_succ, List.set_cons_zero, List.set_cons_succ, if_true, Bool.false_eq_true, if_false, reduceIte, List.contains_nil, List.contains_cons, Bool.not_false, Bool.not_true, Bool.and_true, Bool.true_and, Bool.and_false, Bool.or_false, Bool.false_or, Bool.false_and, Bool.true_or, Bool.or_true, addG_int, subI_int, eqG_int, neG_int, eqG_bl, neG_bl, cmpI_int, intG, lenG, absG, List.length_cons, sizeLine_eq, Nat.reduceLeDiff, Nat.reduceLT, Nat.zero_le, Nat.zero_add, List.length_nil, Nat.reduceAdd, beq_self_eq_true, Nat.reduceBEq, reduceCtorEq, Nat.reduceEqDiff, bd_ok, bd_bad, bd_err, x_nopS, x_badS, x_bkS, x_ctS, x_ifM, x_ifS, x_dropS, x_retS, x_retR_v, x_retR_fr, x_retR_al, x_retN, x_setS, x_setR_v, x_setR_fr, x_setR_al, x_varM, x_litM, x_liftO_v, x_liftO_fr, x_liftO_n, x_bin2, x_peek2, x_un1, x_asB, x_toB, x_andM, x_orM, x_notM, x_andV, x_orV, x_notV, x_nilA, x_consA, x_nilV, x_consV, x_tupM, x_lstM, x_callM, x_toV, x_toP, x_toPr_v, x_toPr_fr, x_toPr_al, callR_ok, x_callF, x_isaM, x_chainM, x_noPartM, x_partM, x_sliceM, x_setIx, x_mutM, x_mutK, x_par2, x_par3, x_asgS, x_setD, x_tupG, x_consG, x_nilG, x_seqN, x_enumN, x_seqV, x_enumI, x_zipI, x_rng1, x_rng2, x_sortSetM, x_rgM, kt_NoneType_int, kt_NoneType_bool, kt_NoneType_str, kt_NoneType_tuple, kt_NoneType_list, kt_NoneType_dict, kt_bool_int, kt_bool_bool, kt_bool_str, kt_bool_tuple, kt_bool_list, kt_bool_dict, kt_int_int, kt_int_bool, kt_int_str, kt_int_tuple, kt_int_list, kt_int_dict, kt_str_int, kt_str_bool, kt_str_str, kt_str_tuple, kt_str_list, kt_str_dict, kt_tuple_int, kt_tuple_bool, kt_tuple_str, kt_tuple_tuple, kt_tuple_list, kt_tuple_dict, kt_list_int, kt_list_bool, kt_list_str, kt_list_tuple, kt_list_list, kt_list_dict, Int.reduceLE, Int.reduceSub, Int.reduceToNat, Int.reduceNeg, and_self, true_and, and_true, tl, lc1, lc2, all_mapT, any_mapF, ix2_0, ix2_1, e]
end K59
set_option linter.all false
set_option maxRecDepth 100000
set_option maxHeartbeats 4000000
namespace K59
open PySem PySem.Spec PyProof.Rows L2 Fw
abbrev Row := List Int
structure MinPair (rows : List Row) (i j : Nat) : Prop where
  ij : i < j
  jl : j < rows.length
  eq : rows[i]? = rows[j]?
  inn : ∀ k, i < k → k < j → rows[i]? ≠ rows[k]?
  out : ∀ i' k, i' < i → i' < k → k < rows.length → rows[i']? ≠ rows[k]?
def NoPair (rows : List Row) : Prop := ∀ i k, i < k → k < rows.length → rows[i]? ≠ rows[k]?
def Res (rows : List Row) (cs : List Cs) (r : List D) : Prop := (NoPair rows ∧ r = [.str "told"]) ∨ ∃ i j ci cj, MinPair rows i j ∧ cs[i]? = some ci ∧ cs[j]? = some cj ∧ r = [.str "two", encC ci, encC cj]
theorem MinPair.uniq {rows : List Row} {i j i' j' : Nat} (a : MinPair rows i j) (b : MinPair rows i' j') : i = i' ∧ j = j' := by
  have e : i = i' := by
    rcases Nat.lt_trichotomy i i' with h | h | h
    · exact absurd a.eq (b.out i j h a.ij a.jl)
    · exact h
    · exact absurd b.eq (a.out i' j' h b.ij b.jl)
  subst e
  refine ⟨rfl, ?_⟩
  rcases Nat.lt_trichotomy j j' with h | h | h
  · exact absurd a.eq (b.inn j a.ij h)
  · exact h
  · exact absurd b.eq (a.inn j' b.ij h)
theorem Res.uniq {rows : List Row} {cs : List Cs} {r r' : List D} (a : Res rows cs r) (b : Res rows cs r') : r = r' := by
  rcases a with ⟨a, rfl⟩ | ⟨i, j, ci, cj, m, e1, e2, rfl⟩
  · rcases b with ⟨b, rfl⟩ | ⟨i, j, ci, cj, m, e1, e2, rfl⟩
    · rfl
    · exact absurd m.eq (a i j m.ij m.jl)
  · rcases b with ⟨b, rfl⟩ | ⟨i', j', ci', cj', m', e1', e2', rfl⟩
    · exact absurd m.eq (b i j m.ij m.jl)
    · obtain ⟨rfl, rfl⟩ := m.uniq m'
      rw [e1] at e1'; rw [e2] at e2'
      cases e1'; cases e2'
      rfl
/-- the two loops: the first pair of like rows -/
theorem pairs_loop {rows : List Row} {cs : List Cs} {mk : Sl → Sl → Sl → En} {src2 : M Src} {b2 : S} {g1 : TgF} {item : Nat → D} (hl : cs.length = rows.length)
    (hg : ∀ i s5 s6 s7, i < rows.length → free1 s5 = true → free1 s6 = true → ∃ t5 t6, g1 (item i) (mk s5 s6 s7) = some (mk t5 t6 s7) ∧ free1 t5 = true ∧ free1 t6 = true ∧
      (src2 (mk t5 t6 s7) = .ok (rangeL ((i : Int) + 1) (rows.length - (i + 1)), none) (mk t5 t6 s7)) ∧
      ∀ k t7, i < k → k < rows.length → free1 t7 = true → ∃ u7, setD 7 (.int k) (mk t5 t6 t7) = some (mk t5 t6 u7) ∧ free1 u7 = true ∧
        (rows[i]? ≠ rows[k]? → b2 (mk t5 t6 u7) = .ok .nx (mk t5 t6 u7)) ∧ (rows[i]? = rows[k]? → ∀ ci cj, cs[i]? = some ci → cs[k]? = some cj → b2 (mk t5 t6 u7) = .ok (.rt (.v (.tup [.str "two", encC ci, encC cj]))) (mk t5 t6 u7))) :
    (∃ s5 s6 s7, forL g1 (forS src2 (setD 7) b2) ((List.range rows.length).map item) (mk .no .no .no) = .ok .nx (mk s5 s6 s7) ∧ NoPair rows) ∨
      ∃ r s5 s6 s7, forL g1 (forS src2 (setD 7) b2) ((List.range rows.length).map item) (mk .no .no .no) = .ok (.rt (.v (.tup r))) (mk s5 s6 s7) ∧ Res rows cs r := by
  have hlen : ((List.range rows.length).map item).length = rows.length := by simp
  have main := forL_inv (g := g1) (body := forS src2 (setD 7) b2) (all := (List.range rows.length).map item)
    (fun i en => ∃ s5 s6 s7, en = mk s5 s6 s7 ∧ free1 s5 = true ∧ free1 s6 = true ∧ free1 s7 = true ∧ ∀ i' k, i' < i → i' < k → k < rows.length → rows[i']? ≠ rows[k]?)
    (fun r en => ∃ r' s5 s6 s7, r = .v (.tup r') ∧ en = mk s5 s6 s7 ∧ Res rows cs r') (fun i d en hd ⟨s5, s6, s7, e, f5, f6, f7, hno⟩ => by
      subst e
      have hi : i < rows.length := by have := (List.getElem?_eq_some_iff.mp hd).1; rwa [hlen] at this
      have hd2 : d = item i := by
        rw [List.getElem?_map, List.getElem?_range hi] at hd
        exact (Option.some.inj hd).symm
      subst hd2
      obtain ⟨t5, t6, e1, f5', f6', e2, hin⟩ := hg i s5 s6 s7 hi f5 f6
      have inner := forL_inv (g := setD 7) (body := b2) (all := rangeL ((i : Int) + 1) (rows.length - (i + 1)))
        (fun t en => ∃ t7, en = mk t5 t6 t7 ∧ free1 t7 = true ∧ ∀ k, i < k → k < i + 1 + t → rows[i]? ≠ rows[k]?)
        (fun r en => ∃ k ci cj t7, MinPair rows i k ∧ cs[i]? = some ci ∧ cs[k]? = some cj ∧ r = .v (.tup [.str "two", encC ci, encC cj]) ∧ en = mk t5 t6 t7) (fun t d en hd ⟨t7, e, f7', hk⟩ => by
          subst e
          have ht := (List.getElem?_eq_some_iff.mp hd).1
          rw [rangeL_len] at ht
          have hd3 : d = .int ((i + 1 + t : Nat) : Int) := by
            rw [rangeL_get ht] at hd
            have := (Option.some.inj hd).symm
            rw [this]
            congr 1
          subst hd3
          obtain ⟨u7, q1, q2, q3, q4⟩ := hin (i + 1 + t) t7 (by omega) (by omega) f7'
          by_cases he : rows[i]? = rows[i + 1 + t]?
          · have hci : i < cs.length := by omega
            have hcj : i + 1 + t < cs.length := by omega
            refine ⟨mk t5 t6 u7, .rt _, mk t5 t6 u7, q1, q4 he cs[i] cs[i + 1 + t] (List.getElem?_eq_getElem hci) (List.getElem?_eq_getElem hcj), i + 1 + t, cs[i], cs[i + 1 + t], u7, ⟨by omega, by omega, he, fun k k1 k2 => hk k k1 k2, hno⟩, List.getElem?_eq_getElem hci, List.getElem?_eq_getElem hcj, rfl, rfl⟩
          · refine ⟨mk t5 t6 u7, .nx, mk t5 t6 u7, q1, q3 he, u7, rfl, q2, fun k k1 k2 => ?_⟩
            by_cases hke : k = i + 1 + t
            · subst hke; exact he
            · exact hk k k1 (by omega)) (rangeL ((i : Int) + 1) (rows.length - (i + 1))).length 0 (mk t5 t6 s7) (by omega) ⟨s7, rfl, f7, fun k k1 k2 => by omega⟩
      rw [List.drop_zero] at inner
      rcases inner with ⟨en', i1, t7, rfl, f7', hk⟩ | ⟨r, en', i1, k, ci, cj, t7, mp, c1, c2, rfl, rfl⟩
      · refine ⟨mk t5 t6 s7, .nx, mk t5 t6 t7, e1, ?_, t5, t6, t7, rfl, f5', f6', f7', fun i' k k1 k2 k3 => ?_⟩
        · rw [x_forS, e2, bd_ok, x_withSrc_none, i1]
        · by_cases h : i' = i
          · subst h
            rw [rangeL_len] at hk
            exact hk k k2 (by omega)
          · exact hno i' k (by omega) k2 k3
      · refine ⟨mk t5 t6 s7, .rt _, mk t5 t6 t7, e1, ?_, _, t5, t6, t7, rfl, rfl, .inr ⟨i, k, ci, cj, mp, c1, c2, rfl⟩⟩
        rw [x_forS, e2, bd_ok, x_withSrc_none, i1]) ((List.range rows.length).map item).length 0 (mk .no .no .no) (by omega) ⟨.no, .no, .no, rfl, rfl, rfl, rfl, fun _ _ h => by omega⟩
  rw [List.drop_zero] at main
  rcases main with ⟨en', e, s5, s6, s7, rfl, _, _, _, hno⟩ | ⟨r, en', e, r', s5, s6, s7, rfl, rfl, hr⟩
  · exact .inl ⟨s5, s6, s7, e, fun i k h1 h2 => hno i k (by rw [hlen]; omega) h1 h2⟩
  · exact .inr ⟨r', s5, s6, s7, e, hr⟩
end K59
set_option linter.all false
set_option maxRecDepth 100000
set_option maxHeartbeats 4000000
namespace K59
open PySem PySem.Spec PyProof.Rows L2 Fw
theorem enumL_range (xs : List D) : enumL xs = (List.range xs.length).map fun i : Nat => .tup [.int (i : Nat), xs.getD i .non] := by
  apply List.ext_getElem?
  intro i
  by_cases h : i < xs.length
  · rw [enumL_get (List.getElem?_eq_getElem h), List.getElem?_map, List.getElem?_range h, Option.map_some, List.getD_eq_getElem?_getD, List.getElem?_eq_getElem h]
    rfl
  · rw [List.getElem?_eq_none (by rw [enumL_len]; omega), List.getElem?_eq_none (by simp; omega)]
def rowOf (ws : List Wg) (c : Cs) : Row := ws.map fun w => tells w c
theorem row_lc {ws : List Wg} {c : Cs} {s0 s1 s3 s4 s5 s7 s9 : Sl} : lcM (seqN 2) [8] (setD 8) yesM (toV (callF F_told_by (consA (varM 8) (consA (varM 6) nilA)))) [s0, s1, .v (.tup (ws.map encW)), s3, s4, s5, .v (encC c), s7, .no, s9] =
    .ok (.fr (.lst (intL (rowOf ws c)))) [s0, s1, .v (.tup (ws.map encW)), s3, s4, s5, .v (encC c), s7, .no, s9] := by
  refine lcM_none' (ds := ws.map encW) (by simp only [x_free0, x_freeS, free1_v, free1_no, free1_own, peek, peekL, thaw, argSls, argSl, als, nodup?, putBack, stepBack, tyOf, mutK, shOk, plainR, outs, x_seqS, List.replicate, List.append_nil, List.nil_append, List.cons_append, List.getElem?_cons_zero, List.getElem?_cons_succ, List.set_cons_zero, List.set_cons_succ, if_true, Bool.false_eq_true, if_false, reduceIte, List.contains_nil, List.contains_cons, Bool.not_false, Bool.not_true, Bool.and_true, Bool.true_and, Bool.and_false, Bool.or_false, Bool.false_or, Bool.false_and, Bool.true_or, Bool.or_true, addG_int, subI_int, eqG_int, neG_int, eqG_bl, neG_bl, cmpI_int, intG, lenG, absG, List.length_cons, sizeLine_eq, Nat.reduceLeDiff, Nat.reduceLT, Nat.zero_le, Nat.zero_add, List.length_nil, Nat.reduceAdd, beq_self_eq_true, Nat.reduceBEq, reduceCtorEq, Nat.reduceEqDiff, bd_ok, bd_bad, bd_err, x_nopS, x_badS, x_bkS, x_ctS, x_ifM, x_ifS, x_dropS, x_retS, x_retR_v, x_retR_fr, x_retR_al, x_retN, x_setS, x_setR_v, x_setR_fr, x_setR_al, x_varM, x_litM, x_liftO_v, x_liftO_fr, x_liftO_n, x_bin2, x_peek2, x_un1, x_asB, x_toB, x_andM, x_orM, x_notM, x_andV, x_orV, x_notV, x_nilA, x_consA, x_nilV, x_consV, x_tupM, x_lstM, x_callM, x_toV, x_toP, x_toPr_v, x_toPr_fr, x_toPr_al, callR_ok, x_callF, x_isaM, x_chainM, x_noPartM, x_partM, x_sliceM, x_setIx, x_mutM, x_mutK, x_par2, x_par3, x_asgS, x_setD, x_tupG, x_consG, x_nilG, x_seqN, x_enumN, x_seqV, x_enumI, x_zipI, x_rng1, x_rng2, x_sortSetM, x_rgM, kt_NoneType_int, kt_NoneType_bool, kt_NoneType_str, kt_NoneType_tuple, kt_NoneType_list, kt_NoneType_dict, kt_bool_int, kt_bool_bool, kt_bool_str, kt_bool_tuple, kt_bool_list, kt_bool_dict, kt_int_int, kt_int_bool, kt_int_str, kt_int_tuple, kt_int_list, kt_int_dict, kt_str_int, kt_str_bool, kt_str_str, kt_str_tuple, kt_str_list, kt_str_dict, kt_tuple_int, kt_tuple_bool, kt_tuple_str, kt_tuple_tuple, kt_tuple_list, kt_tuple_dict, kt_list_int, kt_list_bool, kt_list_str, kt_list_tuple, kt_list_list, kt_list_dict, Int.reduceLE, Int.reduceSub, Int.reduceToNat, Int.reduceNeg, and_self, true_and, and_true]) ?_
  have e : intL (rowOf ws c) = ws.map fun w => .int (tells w c) := by unfold intL rowOf; rw [List.map_map]; rfl
  rw [e]
  refine lcL_mapX encW _ fun w _ => ?_
  have t := told_by_ok w c
  refine ⟨[s0, s1, .v (.tup (ws.map encW)), s3, s4, s5, .v (encC c), s7, .v (encW w), s9], [s0, s1, .v (.tup (ws.map encW)), s3, s4, s5, .v (encC c), s7, .v (encW w), s9], ?_, ?_, rfl⟩
  · simp only [x_free0, x_freeS, free1_v, free1_no, free1_own, peek, peekL, thaw, argSls, argSl, als, nodup?, putBack, stepBack, tyOf, mutK, shOk, plainR, outs, x_seqS, List.replicate, List.append_nil, List.nil_append, List.cons_append, List.getElem?_cons_zero, List.getElem?_cons_succ, List.set_cons_zero, List.set_cons_succ, if_true, Bool.false_eq_true, if_false, reduceIte, List.contains_nil, List.contains_cons, Bool.not_false, Bool.not_true, Bool.and_true, Bool.true_and, Bool.and_false, Bool.or_false, Bool.false_or, Bool.false_and, Bool.true_or, Bool.or_true, addG_int, subI_int, eqG_int, neG_int, eqG_bl, neG_bl, cmpI_int, intG, lenG, absG, List.length_cons, sizeLine_eq, Nat.reduceLeDiff, Nat.reduceLT, Nat.zero_le, Nat.zero_add, List.length_nil, Nat.reduceAdd, beq_self_eq_true, Nat.reduceBEq, reduceCtorEq, Nat.reduceEqDiff, bd_ok, bd_bad, bd_err, x_nopS, x_badS, x_bkS, x_ctS, x_ifM, x_ifS, x_dropS, x_retS, x_retR_v, x_retR_fr, x_retR_al, x_retN, x_setS, x_setR_v, x_setR_fr, x_setR_al, x_varM, x_litM, x_liftO_v, x_liftO_fr, x_liftO_n, x_bin2, x_peek2, x_un1, x_asB, x_toB, x_andM, x_orM, x_notM, x_andV, x_orV, x_notV, x_nilA, x_consA, x_nilV, x_consV, x_tupM, x_lstM, x_callM, x_toV, x_toP, x_toPr_v, x_toPr_fr, x_toPr_al, callR_ok, x_callF, x_isaM, x_chainM, x_noPartM, x_partM, x_sliceM, x_setIx, x_mutM, x_mutK, x_par2, x_par3, x_asgS, x_setD, x_tupG, x_consG, x_nilG, x_seqN, x_enumN, x_seqV, x_enumI, x_zipI, x_rng1, x_rng2, x_sortSetM, x_rgM, kt_NoneType_int, kt_NoneType_bool, kt_NoneType_str, kt_NoneType_tuple, kt_NoneType_list, kt_NoneType_dict, kt_bool_int, kt_bool_bool, kt_bool_str, kt_bool_tuple, kt_bool_list, kt_bool_dict, kt_int_int, kt_int_bool, kt_int_str, kt_int_tuple, kt_int_list, kt_int_dict, kt_str_int, kt_str_bool, kt_str_str, kt_str_tuple, kt_str_list, kt_str_dict, kt_tuple_int, kt_tuple_bool, kt_tuple_str, kt_tuple_tuple, kt_tuple_list, kt_tuple_dict, kt_list_int, kt_list_bool, kt_list_str, kt_list_tuple, kt_list_list, kt_list_dict, Int.reduceLE, Int.reduceSub, Int.reduceToNat, Int.reduceNeg, and_self, true_and, and_true, wipeE]
  · simp only [x_free0, x_freeS, free1_v, free1_no, free1_own, peek, peekL, thaw, argSls, argSl, als, nodup?, putBack, stepBack, tyOf, mutK, shOk, plainR, outs, x_seqS, List.replicate, List.append_nil, List.nil_append, List.cons_append, List.getElem?_cons_zero, List.getElem?_cons_succ, List.set_cons_zero, List.set_cons_succ, if_true, Bool.false_eq_true, if_false, reduceIte, List.contains_nil, List.contains_cons, Bool.not_false, Bool.not_true, Bool.and_true, Bool.true_and, Bool.and_false, Bool.or_false, Bool.false_or, Bool.false_and, Bool.true_or, Bool.or_true, addG_int, subI_int, eqG_int, neG_int, eqG_bl, neG_bl, cmpI_int, intG, lenG, absG, List.length_cons, sizeLine_eq, Nat.reduceLeDiff, Nat.reduceLT, Nat.zero_le, Nat.zero_add, List.length_nil, Nat.reduceAdd, beq_self_eq_true, Nat.reduceBEq, reduceCtorEq, Nat.reduceEqDiff, bd_ok, bd_bad, bd_err, x_nopS, x_badS, x_bkS, x_ctS, x_ifM, x_ifS, x_dropS, x_retS, x_retR_v, x_retR_fr, x_retR_al, x_retN, x_setS, x_setR_v, x_setR_fr, x_setR_al, x_varM, x_litM, x_liftO_v, x_liftO_fr, x_liftO_n, x_bin2, x_peek2, x_un1, x_asB, x_toB, x_andM, x_orM, x_notM, x_andV, x_orV, x_notV, x_nilA, x_consA, x_nilV, x_consV, x_tupM, x_lstM, x_callM, x_toV, x_toP, x_toPr_v, x_toPr_fr, x_toPr_al, callR_ok, x_callF, x_isaM, x_chainM, x_noPartM, x_partM, x_sliceM, x_setIx, x_mutM, x_mutK, x_par2, x_par3, x_asgS, x_setD, x_tupG, x_consG, x_nilG, x_seqN, x_enumN, x_seqV, x_enumI, x_zipI, x_rng1, x_rng2, x_sortSetM, x_rgM, kt_NoneType_int, kt_NoneType_bool, kt_NoneType_str, kt_NoneType_tuple, kt_NoneType_list, kt_NoneType_dict, kt_bool_int, kt_bool_bool, kt_bool_str, kt_bool_tuple, kt_bool_list, kt_bool_dict, kt_int_int, kt_int_bool, kt_int_str, kt_int_tuple, kt_int_list, kt_int_dict, kt_str_int, kt_str_bool, kt_str_str, kt_str_tuple, kt_str_list, kt_str_dict, kt_tuple_int, kt_tuple_bool, kt_tuple_str, kt_tuple_tuple, kt_tuple_list, kt_tuple_dict, kt_list_int, kt_list_bool, kt_list_str, kt_list_tuple, kt_list_list, kt_list_dict, Int.reduceLE, Int.reduceSub, Int.reduceToNat, Int.reduceNeg, and_self, true_and, and_true, t]
theorem rows_lcL {ws : List Wg} {cs : List Cs} {s0 s1 s3 : Sl} : lcL [6] (setD 6) yesM (toV (lcM (seqN 2) [8] (setD 8) yesM (toV (callF F_told_by (consA (varM 8) (consA (varM 6) nilA)))))) (cs.map encC) [s0, s1, .v (.tup (ws.map encW)), s3, .no, .no, .no, .no, .no, .no] = .ok (cs.map fun c => .lst (intL (rowOf ws c))) [s0, s1, .v (.tup (ws.map encW)), s3, .no, .no, .no, .no, .no, .no] := by
  refine lcL_mapX encC _ fun c _ => ?_
  have t := row_lc (ws := ws) (c := c) (s0 := s0) (s1 := s1) (s3 := s3) (s4 := .no) (s5 := .no) (s7 := .no) (s9 := .no)
  refine ⟨[s0, s1, .v (.tup (ws.map encW)), s3, .no, .no, .v (encC c), .no, .no, .no], [s0, s1, .v (.tup (ws.map encW)), s3, .no, .no, .v (encC c), .no, .no, .no], ?_, ?_, ?_⟩
  · simp only [x_free0, x_freeS, free1_v, free1_no, free1_own, peek, peekL, thaw, argSls, argSl, als, nodup?, putBack, stepBack, tyOf, mutK, shOk, plainR, outs, x_seqS, List.replicate, List.append_nil, List.nil_append, List.cons_append, List.getElem?_cons_zero, List.getElem?_cons_succ, List.set_cons_zero, List.set_cons_succ, if_true, Bool.false_eq_true, if_false, reduceIte, List.contains_nil, List.contains_cons, Bool.not_false, Bool.not_true, Bool.and_true, Bool.true_and, Bool.and_false, Bool.or_false, Bool.false_or, Bool.false_and, Bool.true_or, Bool.or_true, addG_int, subI_int, eqG_int, neG_int, eqG_bl, neG_bl, cmpI_int, intG, lenG, absG, List.length_cons, sizeLine_eq, Nat.reduceLeDiff, Nat.reduceLT, Nat.zero_le, Nat.zero_add, List.length_nil, Nat.reduceAdd, beq_self_eq_true, Nat.reduceBEq, reduceCtorEq, Nat.reduceEqDiff, bd_ok, bd_bad, bd_err, x_nopS, x_badS, x_bkS, x_ctS, x_ifM, x_ifS, x_dropS, x_retS, x_retR_v, x_retR_fr, x_retR_al, x_retN, x_setS, x_setR_v, x_setR_fr, x_setR_al, x_varM, x_litM, x_liftO_v, x_liftO_fr, x_liftO_n, x_bin2, x_peek2, x_un1, x_asB, x_toB, x_andM, x_orM, x_notM, x_andV, x_orV, x_notV, x_nilA, x_consA, x_nilV, x_consV, x_tupM, x_lstM, x_callM, x_toV, x_toP, x_toPr_v, x_toPr_fr, x_toPr_al, callR_ok, x_callF, x_isaM, x_chainM, x_noPartM, x_partM, x_sliceM, x_setIx, x_mutM, x_mutK, x_par2, x_par3, x_asgS, x_setD, x_tupG, x_consG, x_nilG, x_seqN, x_enumN, x_seqV, x_enumI, x_zipI, x_rng1, x_rng2, x_sortSetM, x_rgM, kt_NoneType_int, kt_NoneType_bool, kt_NoneType_str, kt_NoneType_tuple, kt_NoneType_list, kt_NoneType_dict, kt_bool_int, kt_bool_bool, kt_bool_str, kt_bool_tuple, kt_bool_list, kt_bool_dict, kt_int_int, kt_int_bool, kt_int_str, kt_int_tuple, kt_int_list, kt_int_dict, kt_str_int, kt_str_bool, kt_str_str, kt_str_tuple, kt_str_list, kt_str_dict, kt_tuple_int, kt_tuple_bool, kt_tuple_str, kt_tuple_tuple, kt_tuple_list, kt_tuple_dict, kt_list_int, kt_list_bool, kt_list_str, kt_list_tuple, kt_list_list, kt_list_dict, Int.reduceLE, Int.reduceSub, Int.reduceToNat, Int.reduceNeg, and_self, true_and, and_true]
  · rw [x_toV, t, bd_ok]
    rfl
  · simp only [wipeE, x_free0, x_freeS, free1_v, free1_no, free1_own, peek, peekL, thaw, argSls, argSl, als, nodup?, putBack, stepBack, tyOf, mutK, shOk, plainR, outs, x_seqS, List.replicate, List.append_nil, List.nil_append, List.cons_append, List.getElem?_cons_zero, List.getElem?_cons_succ, List.set_cons_zero, List.set_cons_succ, if_true, Bool.false_eq_true, if_false, reduceIte, List.contains_nil, List.contains_cons, Bool.not_false, Bool.not_true, Bool.and_true, Bool.true_and, Bool.and_false, Bool.or_false, Bool.false_or, Bool.false_and, Bool.true_or, Bool.or_true, addG_int, subI_int, eqG_int, neG_int, eqG_bl, neG_bl, cmpI_int, intG, lenG, absG, List.length_cons, sizeLine_eq, Nat.reduceLeDiff, Nat.reduceLT, Nat.zero_le, Nat.zero_add, List.length_nil, Nat.reduceAdd, beq_self_eq_true, Nat.reduceBEq, reduceCtorEq, Nat.reduceEqDiff, bd_ok, bd_bad, bd_err, x_nopS, x_badS, x_bkS, x_ctS, x_ifM, x_ifS, x_dropS, x_retS, x_retR_v, x_retR_fr, x_retR_al, x_retN, x_setS, x_setR_v, x_setR_fr, x_setR_al, x_varM, x_litM, x_liftO_v, x_liftO_fr, x_liftO_n, x_bin2, x_peek2, x_un1, x_asB, x_toB, x_andM, x_orM, x_notM, x_andV, x_orV, x_notV, x_nilA, x_consA, x_nilV, x_consV, x_tupM, x_lstM, x_callM, x_toV, x_toP, x_toPr_v, x_toPr_fr, x_toPr_al, callR_ok, x_callF, x_isaM, x_chainM, x_noPartM, x_partM, x_sliceM, x_setIx, x_mutM, x_mutK, x_par2, x_par3, x_asgS, x_setD, x_tupG, x_consG, x_nilG, x_seqN, x_enumN, x_seqV, x_enumI, x_zipI, x_rng1, x_rng2, x_sortSetM, x_rgM, kt_NoneType_int, kt_NoneType_bool, kt_NoneType_str, kt_NoneType_tuple, kt_NoneType_list, kt_NoneType_dict, kt_bool_int, kt_bool_bool, kt_bool_str, kt_bool_tuple, kt_bool_list, kt_bool_dict, kt_int_int, kt_int_bool, kt_int_str, kt_int_tuple, kt_int_list, kt_int_dict, kt_str_int, kt_str_bool, kt_str_str, kt_str_tuple, kt_str_list, kt_str_dict, kt_tuple_int, kt_tuple_bool, kt_tuple_str, kt_tuple_tuple, kt_tuple_list, kt_tuple_dict, kt_list_int, kt_list_bool, kt_list_str, kt_list_tuple, kt_list_list, kt_list_dict, Int.reduceLE, Int.reduceSub, Int.reduceToNat, Int.reduceNeg, and_self, true_and, and_true]
theorem rows_lc {ws : List Wg} {cs : List Cs} {s0 s1 : Sl} : lcM (seqN 3) [6] (setD 6) yesM (toV (lcM (seqN 2) [8] (setD 8) yesM (toV (callF F_told_by (consA (varM 8) (consA (varM 6) nilA)))))) [s0, s1, .v (.tup (ws.map encW)), .mu .own (.lst (cs.map encC)), .no, .no, .no, .no, .no, .no] =
    .ok (.fr (.lst (cs.map fun c => .lst (intL (rowOf ws c))))) [s0, s1, .v (.tup (ws.map encW)), .mu .own (.lst (cs.map encC)), .no, .no, .no, .no, .no, .no] := by
  refine lcM_some' (i := 3) (k := .own) (d := .lst (cs.map encC)) (ds := cs.map encC) ?_ ?_ ?_
  · simp only [x_free0, x_freeS, free1_v, free1_no, free1_own, peek, peekL, thaw, argSls, argSl, als, nodup?, putBack, stepBack, tyOf, mutK, shOk, plainR, outs, x_seqS, List.replicate, List.append_nil, List.nil_append, List.cons_append, List.getElem?_cons_zero, List.getElem?_cons_succ, List.set_cons_zero, List.set_cons_succ, if_true, Bool.false_eq_true, if_false, reduceIte, List.contains_nil, List.contains_cons, Bool.not_false, Bool.not_true, Bool.and_true, Bool.true_and, Bool.and_false, Bool.or_false, Bool.false_or, Bool.false_and, Bool.true_or, Bool.or_true, addG_int, subI_int, eqG_int, neG_int, eqG_bl, neG_bl, cmpI_int, intG, lenG, absG, List.length_cons, sizeLine_eq, Nat.reduceLeDiff, Nat.reduceLT, Nat.zero_le, Nat.zero_add, List.length_nil, Nat.reduceAdd, beq_self_eq_true, Nat.reduceBEq, reduceCtorEq, Nat.reduceEqDiff, bd_ok, bd_bad, bd_err, x_nopS, x_badS, x_bkS, x_ctS, x_ifM, x_ifS, x_dropS, x_retS, x_retR_v, x_retR_fr, x_retR_al, x_retN, x_setS, x_setR_v, x_setR_fr, x_setR_al, x_varM, x_litM, x_liftO_v, x_liftO_fr, x_liftO_n, x_bin2, x_peek2, x_un1, x_asB, x_toB, x_andM, x_orM, x_notM, x_andV, x_orV, x_notV, x_nilA, x_consA, x_nilV, x_consV, x_tupM, x_lstM, x_callM, x_toV, x_toP, x_toPr_v, x_toPr_fr, x_toPr_al, callR_ok, x_callF, x_isaM, x_chainM, x_noPartM, x_partM, x_sliceM, x_setIx, x_mutM, x_mutK, x_par2, x_par3, x_asgS, x_setD, x_tupG, x_consG, x_nilG, x_seqN, x_enumN, x_seqV, x_enumI, x_zipI, x_rng1, x_rng2, x_sortSetM, x_rgM, kt_NoneType_int, kt_NoneType_bool, kt_NoneType_str, kt_NoneType_tuple, kt_NoneType_list, kt_NoneType_dict, kt_bool_int, kt_bool_bool, kt_bool_str, kt_bool_tuple, kt_bool_list, kt_bool_dict, kt_int_int, kt_int_bool, kt_int_str, kt_int_tuple, kt_int_list, kt_int_dict, kt_str_int, kt_str_bool, kt_str_str, kt_str_tuple, kt_str_list, kt_str_dict, kt_tuple_int, kt_tuple_bool, kt_tuple_str, kt_tuple_tuple, kt_tuple_list, kt_tuple_dict, kt_list_int, kt_list_bool, kt_list_str, kt_list_tuple, kt_list_list, kt_list_dict, Int.reduceLE, Int.reduceSub, Int.reduceToNat, Int.reduceNeg, and_self, true_and, and_true]
  · simp only [x_free0, x_freeS, free1_v, free1_no, free1_own, peek, peekL, thaw, argSls, argSl, als, nodup?, putBack, stepBack, tyOf, mutK, shOk, plainR, outs, x_seqS, List.replicate, List.append_nil, List.nil_append, List.cons_append, List.getElem?_cons_zero, List.getElem?_cons_succ, List.set_cons_zero, List.set_cons_succ, if_true, Bool.false_eq_true, if_false, reduceIte, List.contains_nil, List.contains_cons, Bool.not_false, Bool.not_true, Bool.and_true, Bool.true_and, Bool.and_false, Bool.or_false, Bool.false_or, Bool.false_and, Bool.true_or, Bool.or_true, addG_int, subI_int, eqG_int, neG_int, eqG_bl, neG_bl, cmpI_int, intG, lenG, absG, List.length_cons, sizeLine_eq, Nat.reduceLeDiff, Nat.reduceLT, Nat.zero_le, Nat.zero_add, List.length_nil, Nat.reduceAdd, beq_self_eq_true, Nat.reduceBEq, reduceCtorEq, Nat.reduceEqDiff, bd_ok, bd_bad, bd_err, x_nopS, x_badS, x_bkS, x_ctS, x_ifM, x_ifS, x_dropS, x_retS, x_retR_v, x_retR_fr, x_retR_al, x_retN, x_setS, x_setR_v, x_setR_fr, x_setR_al, x_varM, x_litM, x_liftO_v, x_liftO_fr, x_liftO_n, x_bin2, x_peek2, x_un1, x_asB, x_toB, x_andM, x_orM, x_notM, x_andV, x_orV, x_notV, x_nilA, x_consA, x_nilV, x_consV, x_tupM, x_lstM, x_callM, x_toV, x_toP, x_toPr_v, x_toPr_fr, x_toPr_al, callR_ok, x_callF, x_isaM, x_chainM, x_noPartM, x_partM, x_sliceM, x_setIx, x_mutM, x_mutK, x_par2, x_par3, x_asgS, x_setD, x_tupG, x_consG, x_nilG, x_seqN, x_enumN, x_seqV, x_enumI, x_zipI, x_rng1, x_rng2, x_sortSetM, x_rgM, kt_NoneType_int, kt_NoneType_bool, kt_NoneType_str, kt_NoneType_tuple, kt_NoneType_list, kt_NoneType_dict, kt_bool_int, kt_bool_bool, kt_bool_str, kt_bool_tuple, kt_bool_list, kt_bool_dict, kt_int_int, kt_int_bool, kt_int_str, kt_int_tuple, kt_int_list, kt_int_dict, kt_str_int, kt_str_bool, kt_str_str, kt_str_tuple, kt_str_list, kt_str_dict, kt_tuple_int, kt_tuple_bool, kt_tuple_str, kt_tuple_tuple, kt_tuple_list, kt_tuple_dict, kt_list_int, kt_list_bool, kt_list_str, kt_list_tuple, kt_list_list, kt_list_dict, Int.reduceLE, Int.reduceSub, Int.reduceToNat, Int.reduceNeg, and_self, true_and, and_true]
  · have z : ∀ s3 : Sl, wipeE ([s0, s1, .v (.tup (ws.map encW)), s3, .no, .no, .no, .no, .no, .no].set 3 (.mu .lck (.lst (cs.map encC)))) [6] = [s0, s1, .v (.tup (ws.map encW)), .mu .lck (.lst (cs.map encC)), .no, .no, .no, .no, .no, .no] := fun s3 => by simp only [wipeE, x_free0, x_freeS, free1_v, free1_no, free1_own, peek, peekL, thaw, argSls, argSl, als, nodup?, putBack, stepBack, tyOf, mutK, shOk, plainR, outs, x_seqS, List.replicate, List.append_nil, List.nil_append, List.cons_append, List.getElem?_cons_zero, List.getElem?_cons_succ, List.set_cons_zero, List.set_cons_succ, if_true, Bool.false_eq_true, if_false, reduceIte, List.contains_nil, List.contains_cons, Bool.not_false, Bool.not_true, Bool.and_true, Bool.true_and, Bool.and_false, Bool.or_false, Bool.false_or, Bool.false_and, Bool.true_or, Bool.or_true, addG_int, subI_int, eqG_int, neG_int, eqG_bl, neG_bl, cmpI_int, intG, lenG, absG, List.length_cons, sizeLine_eq, Nat.reduceLeDiff, Nat.reduceLT, Nat.zero_le, Nat.zero_add, List.length_nil, Nat.reduceAdd, beq_self_eq_true, Nat.reduceBEq, reduceCtorEq, Nat.reduceEqDiff, bd_ok, bd_bad, bd_err, x_nopS, x_badS, x_bkS, x_ctS, x_ifM, x_ifS, x_dropS, x_retS, x_retR_v, x_retR_fr, x_retR_al, x_retN, x_setS, x_setR_v, x_setR_fr, x_setR_al, x_varM, x_litM, x_liftO_v, x_liftO_fr, x_liftO_n, x_bin2, x_peek2, x_un1, x_asB, x_toB, x_andM, x_orM, x_notM, x_andV, x_orV, x_notV, x_nilA, x_consA, x_nilV, x_consV, x_tupM, x_lstM, x_callM, x_toV, x_toP, x_toPr_v, x_toPr_fr, x_toPr_al, callR_ok, x_callF, x_isaM, x_chainM, x_noPartM, x_partM, x_sliceM, x_setIx, x_mutM, x_mutK, x_par2, x_par3, x_asgS, x_setD, x_tupG, x_consG, x_nilG, x_seqN, x_enumN, x_seqV, x_enumI, x_zipI, x_rng1, x_rng2, x_sortSetM, x_rgM, kt_NoneType_int, kt_NoneType_bool, kt_NoneType_str, kt_NoneType_tuple, kt_NoneType_list, kt_NoneType_dict, kt_bool_int, kt_bool_bool, kt_bool_str, kt_bool_tuple, kt_bool_list, kt_bool_dict, kt_int_int, kt_int_bool, kt_int_str, kt_int_tuple, kt_int_list, kt_int_dict, kt_str_int, kt_str_bool, kt_str_str, kt_str_tuple, kt_str_list, kt_str_dict, kt_tuple_int, kt_tuple_bool, kt_tuple_str, kt_tuple_tuple, kt_tuple_list, kt_tuple_dict, kt_list_int, kt_list_bool, kt_list_str, kt_list_tuple, kt_list_list, kt_list_dict, Int.reduceLE, Int.reduceSub, Int.reduceToNat, Int.reduceNeg, and_self, true_and, and_true]
    rw [z]
    exact rows_lcL
abbrev mkT (s0 s1 s2 : Sl) (cs : List Cs) (rows : List Row) (s5 s6 s7 : Sl) : En := [s0, s1, s2, .mu .lck (.lst (cs.map encC)), .mu .own (.lst (rows.map fun r => .lst (intL r))), s5, s6, s7, .no, .no]
abbrev src2T : M Src := rng2 (bin2 addG (varM 5) (litM (.int 1))) (callM lenG (consA (varM 3) nilA))
abbrev b2T : S := ifS (toB (bin2 eqG (bin2 ixG (varM 4) (varM 5)) (bin2 ixG (varM 4) (varM 7)))) (retS (tupM (consV (toV (litM (.str "two"))) (consV (toV (varM 6)) (consV (toV (bin2 ixG (varM 3) (varM 7))) nilV))))) nopS
section
variable {s0 s1 s2 : Sl} {cs : List Cs} {rows : List Row} {i : Nat}
theorem rowAt {j : Nat} (hj : j < rows.length) : ixG (.lst (rows.map fun r => D.lst (intL r))) (.int j) = some (.v (.lst (intL rows[j]))) := ixG_lst (by rw [List.getElem?_map, List.getElem?_eq_getElem hj]; rfl)
theorem stepT1 {s5 s6 s7 : Sl} {c : Cs} (f5 : free1 s5 = true) (f6 : free1 s6 = true) : tupG 2 (consG (setD 5) (consG (setD 6) nilG)) (.tup [.int (i : Nat), encC c]) (mkT s0 s1 s2 cs rows s5 s6 s7) = some (mkT s0 s1 s2 cs rows (.v (.int i)) (.v (encC c)) s7) := by simp only [x_free0, x_freeS, free1_v, free1_no, free1_own, peek, peekL, thaw, argSls, argSl, als, nodup?, putBack, stepBack, tyOf, mutK, shOk, plainR, outs, x_seqS, List.replicate, List.append_nil, List.nil_append, List.cons_append, List.getElem?_cons_zero, List.getElem?_cons_succ, List.set_cons_zero, List.set_cons_succ, if_true, Bool.false_eq_true, if_false, reduceIte, List.contains_nil, List.contains_cons, Bool.not_false, Bool.not_true, Bool.and_true, Bool.true_and, Bool.and_false, Bool.or_false, Bool.false_or, Bool.false_and, Bool.true_or, Bool.or_true, addG_int, subI_int, eqG_int, neG_int, eqG_bl, neG_bl, cmpI_int, intG, lenG, absG, List.length_cons, sizeLine_eq, Nat.reduceLeDiff, Nat.reduceLT, Nat.zero_le, Nat.zero_add, List.length_nil, Nat.reduceAdd, beq_self_eq_true, Nat.reduceBEq, reduceCtorEq, Nat.reduceEqDiff, bd_ok, bd_bad, bd_err, x_nopS, x_badS, x_bkS, x_ctS, x_ifM, x_ifS, x_dropS, x_retS, x_retR_v, x_retR_fr, x_retR_al, x_retN, x_setS, x_setR_v, x_setR_fr, x_setR_al, x_varM, x_litM, x_liftO_v, x_liftO_fr, x_liftO_n, x_bin2, x_peek2, x_un1, x_asB, x_toB, x_andM, x_orM, x_notM, x_andV, x_orV, x_notV, x_nilA, x_consA, x_nilV, x_consV, x_tupM, x_lstM, x_callM, x_toV, x_toP, x_toPr_v, x_toPr_fr, x_toPr_al, callR_ok, x_callF, x_isaM, x_chainM, x_noPartM, x_partM, x_sliceM, x_setIx, x_mutM, x_mutK, x_par2, x_par3, x_asgS, x_setD, x_tupG, x_consG, x_nilG, x_seqN, x_enumN, x_seqV, x_enumI, x_zipI, x_rng1, x_rng2, x_sortSetM, x_rgM, kt_NoneType_int, kt_NoneType_bool, kt_NoneType_str, kt_NoneType_tuple, kt_NoneType_list, kt_NoneType_dict, kt_bool_int, kt_bool_bool, kt_bool_str, kt_bool_tuple, kt_bool_list, kt_bool_dict, kt_int_int, kt_int_bool, kt_int_str, kt_int_tuple, kt_int_list, kt_int_dict, kt_str_int, kt_str_bool, kt_str_str, kt_str_tuple, kt_str_list, kt_str_dict, kt_tuple_int, kt_tuple_bool, kt_tuple_str, kt_tuple_tuple, kt_tuple_list, kt_tuple_dict, kt_list_int, kt_list_bool, kt_list_str, kt_list_tuple, kt_list_list, kt_list_dict, Int.reduceLE, Int.reduceSub, Int.reduceToNat, Int.reduceNeg, and_self, true_and, and_true, f5, f6]
theorem stepT2 {t6 s7 : Sl} (hl : cs.length = rows.length) (hb : rows.length ≤ 100) (hi : i < rows.length) : src2T (mkT s0 s1 s2 cs rows (.v (.int i)) t6 s7) = .ok (rangeL ((i : Int) + 1) (rows.length - (i + 1)), none) (mkT s0 s1 s2 cs rows (.v (.int i)) t6 s7) := by
  have t : (((cs.length : Nat) : Int) - ((i : Int) + 1)).toNat = rows.length - (i + 1) := by omega
  have u : (-8388608 ≤ (i : Int) + 1 ∧ (i : Int) + 1 ≤ 8388608) ∧ -8388608 ≤ ((cs.length : Nat) : Int) ∧ ((cs.length : Nat) : Int) ≤ 8388608 := by omega
  have q : bin2 addG (varM 5) (litM (.int 1)) (mkT s0 s1 s2 cs rows (.v (.int i)) t6 s7) = .ok (.v (.int ((i : Int) + 1))) (mkT s0 s1 s2 cs rows (.v (.int i)) t6 s7) := by simp only [x_free0, x_freeS, free1_v, free1_no, free1_own, peek, peekL, thaw, argSls, argSl, als, nodup?, putBack, stepBack, tyOf, mutK, shOk, plainR, outs, x_seqS, List.replicate, List.append_nil, List.nil_append, List.cons_append, List.getElem?_cons_zero, List.getElem?_cons_succ, List.set_cons_zero, List.set_cons_succ, if_true, Bool.false_eq_true, if_false, reduceIte, List.contains_nil, List.contains_cons, Bool.not_false, Bool.not_true, Bool.and_true, Bool.true_and, Bool.and_false, Bool.or_false, Bool.false_or, Bool.false_and, Bool.true_or, Bool.or_true, addG_int, subI_int, eqG_int, neG_int, eqG_bl, neG_bl, cmpI_int, intG, lenG, absG, List.length_cons, sizeLine_eq, Nat.reduceLeDiff, Nat.reduceLT, Nat.zero_le, Nat.zero_add, List.length_nil, Nat.reduceAdd, beq_self_eq_true, Nat.reduceBEq, reduceCtorEq, Nat.reduceEqDiff, bd_ok, bd_bad, bd_err, x_nopS, x_badS, x_bkS, x_ctS, x_ifM, x_ifS, x_dropS, x_retS, x_retR_v, x_retR_fr, x_retR_al, x_retN, x_setS, x_setR_v, x_setR_fr, x_setR_al, x_varM, x_litM, x_liftO_v, x_liftO_fr, x_liftO_n, x_bin2, x_peek2, x_un1, x_asB, x_toB, x_andM, x_orM, x_notM, x_andV, x_orV, x_notV, x_nilA, x_consA, x_nilV, x_consV, x_tupM, x_lstM, x_callM, x_toV, x_toP, x_toPr_v, x_toPr_fr, x_toPr_al, callR_ok, x_callF, x_isaM, x_chainM, x_noPartM, x_partM, x_sliceM, x_setIx, x_mutM, x_mutK, x_par2, x_par3, x_asgS, x_setD, x_tupG, x_consG, x_nilG, x_seqN, x_enumN, x_seqV, x_enumI, x_zipI, x_rng1, x_rng2, x_sortSetM, x_rgM, kt_NoneType_int, kt_NoneType_bool, kt_NoneType_str, kt_NoneType_tuple, kt_NoneType_list, kt_NoneType_dict, kt_bool_int, kt_bool_bool, kt_bool_str, kt_bool_tuple, kt_bool_list, kt_bool_dict, kt_int_int, kt_int_bool, kt_int_str, kt_int_tuple, kt_int_list, kt_int_dict, kt_str_int, kt_str_bool, kt_str_str, kt_str_tuple, kt_str_list, kt_str_dict, kt_tuple_int, kt_tuple_bool, kt_tuple_str, kt_tuple_tuple, kt_tuple_list, kt_tuple_dict, kt_list_int, kt_list_bool, kt_list_str, kt_list_tuple, kt_list_list, kt_list_dict, Int.reduceLE, Int.reduceSub, Int.reduceToNat, Int.reduceNeg, and_self, true_and, and_true]
  have q2 : callM lenG (consA (varM 3) nilA) (mkT s0 s1 s2 cs rows (.v (.int i)) t6 s7) = .ok (.v (.int (cs.length : Nat))) (mkT s0 s1 s2 cs rows (.v (.int i)) t6 s7) := by simp only [x_free0, x_freeS, free1_v, free1_no, free1_own, peek, peekL, thaw, argSls, argSl, als, nodup?, putBack, stepBack, tyOf, mutK, shOk, plainR, outs, x_seqS, List.replicate, List.append_nil, List.nil_append, List.cons_append, List.getElem?_cons_zero, List.getElem?_cons_succ, List.set_cons_zero, List.set_cons_succ, if_true, Bool.false_eq_true, if_false, reduceIte, List.contains_nil, List.contains_cons, Bool.not_false, Bool.not_true, Bool.and_true, Bool.true_and, Bool.and_false, Bool.or_false, Bool.false_or, Bool.false_and, Bool.true_or, Bool.or_true, addG_int, subI_int, eqG_int, neG_int, eqG_bl, neG_bl, cmpI_int, intG, lenG, absG, List.length_cons, sizeLine_eq, Nat.reduceLeDiff, Nat.reduceLT, Nat.zero_le, Nat.zero_add, List.length_nil, Nat.reduceAdd, beq_self_eq_true, Nat.reduceBEq, reduceCtorEq, Nat.reduceEqDiff, bd_ok, bd_bad, bd_err, x_nopS, x_badS, x_bkS, x_ctS, x_ifM, x_ifS, x_dropS, x_retS, x_retR_v, x_retR_fr, x_retR_al, x_retN, x_setS, x_setR_v, x_setR_fr, x_setR_al, x_varM, x_litM, x_liftO_v, x_liftO_fr, x_liftO_n, x_bin2, x_peek2, x_un1, x_asB, x_toB, x_andM, x_orM, x_notM, x_andV, x_orV, x_notV, x_nilA, x_consA, x_nilV, x_consV, x_tupM, x_lstM, x_callM, x_toV, x_toP, x_toPr_v, x_toPr_fr, x_toPr_al, callR_ok, x_callF, x_isaM, x_chainM, x_noPartM, x_partM, x_sliceM, x_setIx, x_mutM, x_mutK, x_par2, x_par3, x_asgS, x_setD, x_tupG, x_consG, x_nilG, x_seqN, x_enumN, x_seqV, x_enumI, x_zipI, x_rng1, x_rng2, x_sortSetM, x_rgM, kt_NoneType_int, kt_NoneType_bool, kt_NoneType_str, kt_NoneType_tuple, kt_NoneType_list, kt_NoneType_dict, kt_bool_int, kt_bool_bool, kt_bool_str, kt_bool_tuple, kt_bool_list, kt_bool_dict, kt_int_int, kt_int_bool, kt_int_str, kt_int_tuple, kt_int_list, kt_int_dict, kt_str_int, kt_str_bool, kt_str_str, kt_str_tuple, kt_str_list, kt_str_dict, kt_tuple_int, kt_tuple_bool, kt_tuple_str, kt_tuple_tuple, kt_tuple_list, kt_tuple_dict, kt_list_int, kt_list_bool, kt_list_str, kt_list_tuple, kt_list_list, kt_list_dict, Int.reduceLE, Int.reduceSub, Int.reduceToNat, Int.reduceNeg, and_self, true_and, and_true, List.length_map]
  unfold src2T
  rw [x_rng2, q, bd_ok, q2, bd_ok]
  simp only [peek]
  rw [if_pos u, t]
theorem stepT3 {t5 t6 t7 : Sl} {j : Nat} (f7 : free1 t7 = true) : setD 7 (.int j) (mkT s0 s1 s2 cs rows t5 t6 t7) = some (mkT s0 s1 s2 cs rows t5 t6 (.v (.int j))) := by simp only [x_free0, x_freeS, free1_v, free1_no, free1_own, peek, peekL, thaw, argSls, argSl, als, nodup?, putBack, stepBack, tyOf, mutK, shOk, plainR, outs, x_seqS, List.replicate, List.append_nil, List.nil_append, List.cons_append, List.getElem?_cons_zero, List.getElem?_cons_succ, List.set_cons_zero, List.set_cons_succ, if_true, Bool.false_eq_true, if_false, reduceIte, List.contains_nil, List.contains_cons, Bool.not_false, Bool.not_true, Bool.and_true, Bool.true_and, Bool.and_false, Bool.or_false, Bool.false_or, Bool.false_and, Bool.true_or, Bool.or_true, addG_int, subI_int, eqG_int, neG_int, eqG_bl, neG_bl, cmpI_int, intG, lenG, absG, List.length_cons, sizeLine_eq, Nat.reduceLeDiff, Nat.reduceLT, Nat.zero_le, Nat.zero_add, List.length_nil, Nat.reduceAdd, beq_self_eq_true, Nat.reduceBEq, reduceCtorEq, Nat.reduceEqDiff, bd_ok, bd_bad, bd_err, x_nopS, x_badS, x_bkS, x_ctS, x_ifM, x_ifS, x_dropS, x_retS, x_retR_v, x_retR_fr, x_retR_al, x_retN, x_setS, x_setR_v, x_setR_fr, x_setR_al, x_varM, x_litM, x_liftO_v, x_liftO_fr, x_liftO_n, x_bin2, x_peek2, x_un1, x_asB, x_toB, x_andM, x_orM, x_notM, x_andV, x_orV, x_notV, x_nilA, x_consA, x_nilV, x_consV, x_tupM, x_lstM, x_callM, x_toV, x_toP, x_toPr_v, x_toPr_fr, x_toPr_al, callR_ok, x_callF, x_isaM, x_chainM, x_noPartM, x_partM, x_sliceM, x_setIx, x_mutM, x_mutK, x_par2, x_par3, x_asgS, x_setD, x_tupG, x_consG, x_nilG, x_seqN, x_enumN, x_seqV, x_enumI, x_zipI, x_rng1, x_rng2, x_sortSetM, x_rgM, kt_NoneType_int, kt_NoneType_bool, kt_NoneType_str, kt_NoneType_tuple, kt_NoneType_list, kt_NoneType_dict, kt_bool_int, kt_bool_bool, kt_bool_str, kt_bool_tuple, kt_bool_list, kt_bool_dict, kt_int_int, kt_int_bool, kt_int_str, kt_int_tuple, kt_int_list, kt_int_dict, kt_str_int, kt_str_bool, kt_str_str, kt_str_tuple, kt_str_list, kt_str_dict, kt_tuple_int, kt_tuple_bool, kt_tuple_str, kt_tuple_tuple, kt_tuple_list, kt_tuple_dict, kt_list_int, kt_list_bool, kt_list_str, kt_list_tuple, kt_list_list, kt_list_dict, Int.reduceLE, Int.reduceSub, Int.reduceToNat, Int.reduceNeg, and_self, true_and, and_true, f7]
theorem stepT4 {t6 : Sl} {j : Nat} (hi : i < rows.length) (hj : j < rows.length) (ne : rows[i]? ≠ rows[j]?) : b2T (mkT s0 s1 s2 cs rows (.v (.int i)) t6 (.v (.int j))) = .ok .nx (mkT s0 s1 s2 cs rows (.v (.int i)) t6 (.v (.int j))) := by
  have q : (rows[i] == rows[j]) = false := beq_eq_false_iff_ne.mpr fun z => ne (by rw [List.getElem?_eq_getElem hi, List.getElem?_eq_getElem hj, z])
  simp only [x_free0, x_freeS, free1_v, free1_no, free1_own, peek, peekL, thaw, argSls, argSl, als, nodup?, putBack, stepBack, tyOf, mutK, shOk, plainR, outs, x_seqS, List.replicate, List.append_nil, List.nil_append, List.cons_append, List.getElem?_cons_zero, List.getElem?_cons_succ, List.set_cons_zero, List.set_cons_succ, if_true, Bool.false_eq_true, if_false, reduceIte, List.contains_nil, List.contains_cons, Bool.not_false, Bool.not_true, Bool.and_true, Bool.true_and, Bool.and_false, Bool.or_false, Bool.false_or, Bool.false_and, Bool.true_or, Bool.or_true, addG_int, subI_int, eqG_int, neG_int, eqG_bl, neG_bl, cmpI_int, intG, lenG, absG, List.length_cons, sizeLine_eq, Nat.reduceLeDiff, Nat.reduceLT, Nat.zero_le, Nat.zero_add, List.length_nil, Nat.reduceAdd, beq_self_eq_true, Nat.reduceBEq, reduceCtorEq, Nat.reduceEqDiff, bd_ok, bd_bad, bd_err, x_nopS, x_badS, x_bkS, x_ctS, x_ifM, x_ifS, x_dropS, x_retS, x_retR_v, x_retR_fr, x_retR_al, x_retN, x_setS, x_setR_v, x_setR_fr, x_setR_al, x_varM, x_litM, x_liftO_v, x_liftO_fr, x_liftO_n, x_bin2, x_peek2, x_un1, x_asB, x_toB, x_andM, x_orM, x_notM, x_andV, x_orV, x_notV, x_nilA, x_consA, x_nilV, x_consV, x_tupM, x_lstM, x_callM, x_toV, x_toP, x_toPr_v, x_toPr_fr, x_toPr_al, callR_ok, x_callF, x_isaM, x_chainM, x_noPartM, x_partM, x_sliceM, x_setIx, x_mutM, x_mutK, x_par2, x_par3, x_asgS, x_setD, x_tupG, x_consG, x_nilG, x_seqN, x_enumN, x_seqV, x_enumI, x_zipI, x_rng1, x_rng2, x_sortSetM, x_rgM, kt_NoneType_int, kt_NoneType_bool, kt_NoneType_str, kt_NoneType_tuple, kt_NoneType_list, kt_NoneType_dict, kt_bool_int, kt_bool_bool, kt_bool_str, kt_bool_tuple, kt_bool_list, kt_bool_dict, kt_int_int, kt_int_bool, kt_int_str, kt_int_tuple, kt_int_list, kt_int_dict, kt_str_int, kt_str_bool, kt_str_str, kt_str_tuple, kt_str_list, kt_str_dict, kt_tuple_int, kt_tuple_bool, kt_tuple_str, kt_tuple_tuple, kt_tuple_list, kt_tuple_dict, kt_list_int, kt_list_bool, kt_list_str, kt_list_tuple, kt_list_list, kt_list_dict, Int.reduceLE, Int.reduceSub, Int.reduceToNat, Int.reduceNeg, and_self, true_and, and_true, rowAt hi, rowAt hj, eqG_lints, q]
theorem stepT5 {a b : Cs} {j : Nat} (hi : i < rows.length) (hj : j < rows.length) (ee : rows[i]? = rows[j]?) (hb : cs[j]? = some b) : b2T (mkT s0 s1 s2 cs rows (.v (.int i)) (.v (encC a)) (.v (.int j))) = .ok (.rt (.v (.tup [.str "two", encC a, encC b]))) (mkT s0 s1 s2 cs rows (.v (.int i)) (.v (encC a)) (.v (.int j))) := by
  have q : (rows[i] == rows[j]) = true := by
    rw [List.getElem?_eq_getElem hi, List.getElem?_eq_getElem hj] at ee
    rw [beq_iff_eq]
    exact Option.some.inj ee
  have cj : ixG (.lst (cs.map encC)) (.int j) = some (.v (encC b)) := ixG_lst (by rw [List.getElem?_map, hb]; rfl)
  simp only [x_free0, x_freeS, free1_v, free1_no, free1_own, peek, peekL, thaw, argSls, argSl, als, nodup?, putBack, stepBack, tyOf, mutK, shOk, plainR, outs, x_seqS, List.replicate, List.append_nil, List.nil_append, List.cons_append, List.getElem?_cons_zero, List.getElem?_cons_succ, List.set_cons_zero, List.set_cons_succ, if_true, Bool.false_eq_true, if_false, reduceIte, List.contains_nil, List.contains_cons, Bool.not_false, Bool.not_true, Bool.and_true, Bool.true_and, Bool.and_false, Bool.or_false, Bool.false_or, Bool.false_and, Bool.true_or, Bool.or_true, addG_int, subI_int, eqG_int, neG_int, eqG_bl, neG_bl, cmpI_int, intG, lenG, absG, List.length_cons, sizeLine_eq, Nat.reduceLeDiff, Nat.reduceLT, Nat.zero_le, Nat.zero_add, List.length_nil, Nat.reduceAdd, beq_self_eq_true, Nat.reduceBEq, reduceCtorEq, Nat.reduceEqDiff, bd_ok, bd_bad, bd_err, x_nopS, x_badS, x_bkS, x_ctS, x_ifM, x_ifS, x_dropS, x_retS, x_retR_v, x_retR_fr, x_retR_al, x_retN, x_setS, x_setR_v, x_setR_fr, x_setR_al, x_varM, x_litM, x_liftO_v, x_liftO_fr, x_liftO_n, x_bin2, x_peek2, x_un1, x_asB, x_toB, x_andM, x_orM, x_notM, x_andV, x_orV, x_notV, x_nilA, x_consA, x_nilV, x_consV, x_tupM, x_lstM, x_callM, x_toV, x_toP, x_toPr_v, x_toPr_fr, x_toPr_al, callR_ok, x_callF, x_isaM, x_chainM, x_noPartM, x_partM, x_sliceM, x_setIx, x_mutM, x_mutK, x_par2, x_par3, x_asgS, x_setD, x_tupG, x_consG, x_nilG, x_seqN, x_enumN, x_seqV, x_enumI, x_zipI, x_rng1, x_rng2, x_sortSetM, x_rgM, kt_NoneType_int, kt_NoneType_bool, kt_NoneType_str, kt_NoneType_tuple, kt_NoneType_list, kt_NoneType_dict, kt_bool_int, kt_bool_bool, kt_bool_str, kt_bool_tuple, kt_bool_list, kt_bool_dict, kt_int_int, kt_int_bool, kt_int_str, kt_int_tuple, kt_int_list, kt_int_dict, kt_str_int, kt_str_bool, kt_str_str, kt_str_tuple, kt_str_list, kt_str_dict, kt_tuple_int, kt_tuple_bool, kt_tuple_str, kt_tuple_tuple, kt_tuple_list, kt_tuple_dict, kt_list_int, kt_list_bool, kt_list_str, kt_list_tuple, kt_list_list, kt_list_dict, Int.reduceLE, Int.reduceSub, Int.reduceToNat, Int.reduceNeg, and_self, true_and, and_true, rowAt hi, rowAt hj, eqG_lints, q, cj]
theorem loopT (hl : cs.length = rows.length) (hb : rows.length ≤ 100) : (∃ s5 s6 s7, forL (tupG 2 (consG (setD 5) (consG (setD 6) nilG))) (forS src2T (setD 7) b2T) (enumL (cs.map encC)) (mkT s0 s1 s2 cs rows .no .no .no) = .ok .nx (mkT s0 s1 s2 cs rows s5 s6 s7) ∧ NoPair rows) ∨
      ∃ r s5 s6 s7, forL (tupG 2 (consG (setD 5) (consG (setD 6) nilG))) (forS src2T (setD 7) b2T) (enumL (cs.map encC)) (mkT s0 s1 s2 cs rows .no .no .no) = .ok (.rt (.v (.tup r))) (mkT s0 s1 s2 cs rows s5 s6 s7) ∧ Res rows cs r := by
  have hen : enumL (cs.map encC) = (List.range rows.length).map fun i : Nat => .tup [.int (i : Nat), (cs.map encC).getD i .non] := by rw [enumL_range, List.length_map, hl]
  rw [hen]
  refine pairs_loop (mk := mkT s0 s1 s2 cs rows) (item := fun i : Nat => .tup [.int (i : Nat), (cs.map encC).getD i .non]) hl fun i s5 s6 s7 hi f5 f6 => ?_
  have hi2 : i < cs.length := by omega
  have ci : (cs.map encC).getD i .non = encC cs[i] := by rw [List.getD_eq_getElem?_getD, List.getElem?_map, List.getElem?_eq_getElem hi2]; rfl
  refine ⟨.v (.int i), .v (encC cs[i]), ?_, rfl, rfl, stepT2 hl hb hi, fun j t7 h1 h2 f7 => ⟨.v (.int j), stepT3 f7, rfl, fun ne => stepT4 hi h2 ne, fun ee a b ha hb2 => ?_⟩⟩
  · simp only [ci]
    exact stepT1 f5 f6
  · rw [List.getElem?_eq_getElem hi2] at ha
    cases ha
    exact stepT5 hi h2 ee hb2
end
theorem told_ok {n : Nat} {k : Kd} {ws : List Wg} (h1 : 1 ≤ n) (h2 : n ≤ 12) (hw : ∀ w ∈ ws, WOk n w) (hl : ws.length ≤ 4) : ∃ r, F_told_apart [.v (.int n), .v (.str k.str), .v (.tup (ws.map encW))] = .ok (.v (.tup r)) [.v (.int n), .v (.str k.str), .v (.tup (ws.map encW))] ∧ Res ((casesL n k).map (rowOf ws)) (casesL n k) r := by
  have a1 := coins_ok h1 h2
  have a2 := kind_ok k
  have a3 := tuple_ok (ws.map encW) 0 4 (by simp) (by simp; omega)
  have a4 := cases_ok k h2
  have cl := cases_len (n := n) k
  have lc := lcM_none' (src := seqN 2) (vs := [9]) (g := setD 9) (ft := yesM) (fe := toV (callF F_is_weighing (consA (varM 0) (consA (varM 9) nilA)))) (en := [.v (.int n), .v (.str k.str), .v (.tup (ws.map encW)), .no, .no, .no, .no, .no, .no, .no]) (en1 := [.v (.int n), .v (.str k.str), .v (.tup (ws.map encW)), .no, .no, .no, .no, .no, .no, .no]) (ds := ws.map encW) (r := (ws.map encW).map fun _ => .bl true) (by simp only [x_free0, x_freeS, free1_v, free1_no, free1_own, peek, peekL, thaw, argSls, argSl, als, nodup?, putBack, stepBack, tyOf, mutK, shOk, plainR, outs, x_seqS, List.replicate, List.append_nil, List.nil_append, List.cons_append, List.getElem?_cons_zero, List.getElem?_cons_succ, List.set_cons_zero, List.set_cons_succ, if_true, Bool.false_eq_true, if_false, reduceIte, List.contains_nil, List.contains_cons, Bool.not_false, Bool.not_true, Bool.and_true, Bool.true_and, Bool.and_false, Bool.or_false, Bool.false_or, Bool.false_and, Bool.true_or, Bool.or_true, addG_int, subI_int, eqG_int, neG_int, eqG_bl, neG_bl, cmpI_int, intG, lenG, absG, List.length_cons, sizeLine_eq, Nat.reduceLeDiff, Nat.reduceLT, Nat.zero_le, Nat.zero_add, List.length_nil, Nat.reduceAdd, beq_self_eq_true, Nat.reduceBEq, reduceCtorEq, Nat.reduceEqDiff, bd_ok, bd_bad, bd_err, x_nopS, x_badS, x_bkS, x_ctS, x_ifM, x_ifS, x_dropS, x_retS, x_retR_v, x_retR_fr, x_retR_al, x_retN, x_setS, x_setR_v, x_setR_fr, x_setR_al, x_varM, x_litM, x_liftO_v, x_liftO_fr, x_liftO_n, x_bin2, x_peek2, x_un1, x_asB, x_toB, x_andM, x_orM, x_notM, x_andV, x_orV, x_notV, x_nilA, x_consA, x_nilV, x_consV, x_tupM, x_lstM, x_callM, x_toV, x_toP, x_toPr_v, x_toPr_fr, x_toPr_al, callR_ok, x_callF, x_isaM, x_chainM, x_noPartM, x_partM, x_sliceM, x_setIx, x_mutM, x_mutK, x_par2, x_par3, x_asgS, x_setD, x_tupG, x_consG, x_nilG, x_seqN, x_enumN, x_seqV, x_enumI, x_zipI, x_rng1, x_rng2, x_sortSetM, x_rgM, kt_NoneType_int, kt_NoneType_bool, kt_NoneType_str, kt_NoneType_tuple, kt_NoneType_list, kt_NoneType_dict, kt_bool_int, kt_bool_bool, kt_bool_str, kt_bool_tuple, kt_bool_list, kt_bool_dict, kt_int_int, kt_int_bool, kt_int_str, kt_int_tuple, kt_int_list, kt_int_dict, kt_str_int, kt_str_bool, kt_str_str, kt_str_tuple, kt_str_list, kt_str_dict, kt_tuple_int, kt_tuple_bool, kt_tuple_str, kt_tuple_tuple, kt_tuple_list, kt_tuple_dict, kt_list_int, kt_list_bool, kt_list_str, kt_list_tuple, kt_list_list, kt_list_dict, Int.reduceLE, Int.reduceSub, Int.reduceToNat, Int.reduceNeg, and_self, true_and, and_true]) (lcL_map _ fun d hd => by
    obtain ⟨w, hm, rfl⟩ := List.mem_map.mp hd
    have q := is_weigh_ok (hw w hm)
    refine ⟨[.v (.int n), .v (.str k.str), .v (.tup (ws.map encW)), .no, .no, .no, .no, .no, .no, .v (encW w)], [.v (.int n), .v (.str k.str), .v (.tup (ws.map encW)), .no, .no, .no, .no, .no, .no, .v (encW w)], ?_, ?_, rfl⟩
    · simp only [x_free0, x_freeS, free1_v, free1_no, free1_own, peek, peekL, thaw, argSls, argSl, als, nodup?, putBack, stepBack, tyOf, mutK, shOk, plainR, outs, x_seqS, List.replicate, List.append_nil, List.nil_append, List.cons_append, List.getElem?_cons_zero, List.getElem?_cons_succ, List.set_cons_zero, List.set_cons_succ, if_true, Bool.false_eq_true, if_false, reduceIte, List.contains_nil, List.contains_cons, Bool.not_false, Bool.not_true, Bool.and_true, Bool.true_and, Bool.and_false, Bool.or_false, Bool.false_or, Bool.false_and, Bool.true_or, Bool.or_true, addG_int, subI_int, eqG_int, neG_int, eqG_bl, neG_bl, cmpI_int, intG, lenG, absG, List.length_cons, sizeLine_eq, Nat.reduceLeDiff, Nat.reduceLT, Nat.zero_le, Nat.zero_add, List.length_nil, Nat.reduceAdd, beq_self_eq_true, Nat.reduceBEq, reduceCtorEq, Nat.reduceEqDiff, bd_ok, bd_bad, bd_err, x_nopS, x_badS, x_bkS, x_ctS, x_ifM, x_ifS, x_dropS, x_retS, x_retR_v, x_retR_fr, x_retR_al, x_retN, x_setS, x_setR_v, x_setR_fr, x_setR_al, x_varM, x_litM, x_liftO_v, x_liftO_fr, x_liftO_n, x_bin2, x_peek2, x_un1, x_asB, x_toB, x_andM, x_orM, x_notM, x_andV, x_orV, x_notV, x_nilA, x_consA, x_nilV, x_consV, x_tupM, x_lstM, x_callM, x_toV, x_toP, x_toPr_v, x_toPr_fr, x_toPr_al, callR_ok, x_callF, x_isaM, x_chainM, x_noPartM, x_partM, x_sliceM, x_setIx, x_mutM, x_mutK, x_par2, x_par3, x_asgS, x_setD, x_tupG, x_consG, x_nilG, x_seqN, x_enumN, x_seqV, x_enumI, x_zipI, x_rng1, x_rng2, x_sortSetM, x_rgM, kt_NoneType_int, kt_NoneType_bool, kt_NoneType_str, kt_NoneType_tuple, kt_NoneType_list, kt_NoneType_dict, kt_bool_int, kt_bool_bool, kt_bool_str, kt_bool_tuple, kt_bool_list, kt_bool_dict, kt_int_int, kt_int_bool, kt_int_str, kt_int_tuple, kt_int_list, kt_int_dict, kt_str_int, kt_str_bool, kt_str_str, kt_str_tuple, kt_str_list, kt_str_dict, kt_tuple_int, kt_tuple_bool, kt_tuple_str, kt_tuple_tuple, kt_tuple_list, kt_tuple_dict, kt_list_int, kt_list_bool, kt_list_str, kt_list_tuple, kt_list_list, kt_list_dict, Int.reduceLE, Int.reduceSub, Int.reduceToNat, Int.reduceNeg, and_self, true_and, and_true, wipeE]
    · simp only [x_free0, x_freeS, free1_v, free1_no, free1_own, peek, peekL, thaw, argSls, argSl, als, nodup?, putBack, stepBack, tyOf, mutK, shOk, plainR, outs, x_seqS, List.replicate, List.append_nil, List.nil_append, List.cons_append, List.getElem?_cons_zero, List.getElem?_cons_succ, List.set_cons_zero, List.set_cons_succ, if_true, Bool.false_eq_true, if_false, reduceIte, List.contains_nil, List.contains_cons, Bool.not_false, Bool.not_true, Bool.and_true, Bool.true_and, Bool.and_false, Bool.or_false, Bool.false_or, Bool.false_and, Bool.true_or, Bool.or_true, addG_int, subI_int, eqG_int, neG_int, eqG_bl, neG_bl, cmpI_int, intG, lenG, absG, List.length_cons, sizeLine_eq, Nat.reduceLeDiff, Nat.reduceLT, Nat.zero_le, Nat.zero_add, List.length_nil, Nat.reduceAdd, beq_self_eq_true, Nat.reduceBEq, reduceCtorEq, Nat.reduceEqDiff, bd_ok, bd_bad, bd_err, x_nopS, x_badS, x_bkS, x_ctS, x_ifM, x_ifS, x_dropS, x_retS, x_retR_v, x_retR_fr, x_retR_al, x_retN, x_setS, x_setR_v, x_setR_fr, x_setR_al, x_varM, x_litM, x_liftO_v, x_liftO_fr, x_liftO_n, x_bin2, x_peek2, x_un1, x_asB, x_toB, x_andM, x_orM, x_notM, x_andV, x_orV, x_notV, x_nilA, x_consA, x_nilV, x_consV, x_tupM, x_lstM, x_callM, x_toV, x_toP, x_toPr_v, x_toPr_fr, x_toPr_al, callR_ok, x_callF, x_isaM, x_chainM, x_noPartM, x_partM, x_sliceM, x_setIx, x_mutM, x_mutK, x_par2, x_par3, x_asgS, x_setD, x_tupG, x_consG, x_nilG, x_seqN, x_enumN, x_seqV, x_enumI, x_zipI, x_rng1, x_rng2, x_sortSetM, x_rgM, kt_NoneType_int, kt_NoneType_bool, kt_NoneType_str, kt_NoneType_tuple, kt_NoneType_list, kt_NoneType_dict, kt_bool_int, kt_bool_bool, kt_bool_str, kt_bool_tuple, kt_bool_list, kt_bool_dict, kt_int_int, kt_int_bool, kt_int_str, kt_int_tuple, kt_int_list, kt_int_dict, kt_str_int, kt_str_bool, kt_str_str, kt_str_tuple, kt_str_list, kt_str_dict, kt_tuple_int, kt_tuple_bool, kt_tuple_str, kt_tuple_tuple, kt_tuple_list, kt_tuple_dict, kt_list_int, kt_list_bool, kt_list_str, kt_list_tuple, kt_list_list, kt_list_dict, Int.reduceLE, Int.reduceSub, Int.reduceToNat, Int.reduceNeg, and_self, true_and, and_true, q])
  have rl := rows_lc (ws := ws) (cs := casesL n k) (s0 := .v (.int n)) (s1 := .v (.str k.str))
  obtain ⟨cs, hcs⟩ : ∃ cs, cs = casesL n k := ⟨_, rfl⟩
  rw [← hcs] at a4 cl rl ⊢
  obtain ⟨rows, hrows⟩ : ∃ rows, rows = cs.map (rowOf ws) := ⟨_, rfl⟩
  have hlen : rows.length = cs.length := by rw [hrows, List.length_map]
  rw [← hrows]
  have hrr : (cs.map fun c => D.lst (intL (rowOf ws c))) = rows.map fun r => .lst (intL r) := by rw [hrows, List.map_map]; rfl
  rw [hrr] at rl
  have loop := loopT (s0 := .v (.int n)) (s1 := .v (.str k.str)) (s2 := .v (.tup (ws.map encW))) (cs := cs) (rows := rows) hlen.symm (by omega)
  unfold F_told_apart fnD b_told_apart
  rcases loop with ⟨s5, s6, s7, e, hn⟩ | ⟨r, s5, s6, s7, e, hr⟩
  · refine ⟨[.str "told"], ?_, .inl ⟨hn, rfl⟩⟩
    have ws := withSrc_some (en := [.v (.int n), .v (.str k.str), .v (.tup (ws.map encW)), .mu .own (.lst (cs.map encC)), .mu .own (.lst (rows.map fun r => .lst (intL r))), .no, .no, .no, .no, .no]) (i := 3) (kk := .own) (d := .lst (cs.map encC)) (K := forL (tupG 2 (consG (setD 5) (consG (setD 6) nilG))) (forS src2T (setD 7) b2T)) rfl e
    simp only [x_free0, x_freeS, free1_v, free1_no, free1_own, peek, peekL, thaw, argSls, argSl, als, nodup?, putBack, stepBack, tyOf, mutK, shOk, plainR, outs, x_seqS, List.replicate, List.append_nil, List.nil_append, List.cons_append, List.getElem?_cons_zero, List.getElem?_cons_succ, List.set_cons_zero, List.set_cons_succ, if_true, Bool.false_eq_true, if_false, reduceIte, List.contains_nil, List.contains_cons, Bool.not_false, Bool.not_true, Bool.and_true, Bool.true_and, Bool.and_false, Bool.or_false, Bool.false_or, Bool.false_and, Bool.true_or, Bool.or_true, addG_int, subI_int, eqG_int, neG_int, eqG_bl, neG_bl, cmpI_int, intG, lenG, absG, List.length_cons, sizeLine_eq, Nat.reduceLeDiff, Nat.reduceLT, Nat.zero_le, Nat.zero_add, List.length_nil, Nat.reduceAdd, beq_self_eq_true, Nat.reduceBEq, reduceCtorEq, Nat.reduceEqDiff, bd_ok, bd_bad, bd_err, x_nopS, x_badS, x_bkS, x_ctS, x_ifM, x_ifS, x_dropS, x_retS, x_retR_v, x_retR_fr, x_retR_al, x_retN, x_setS, x_setR_v, x_setR_fr, x_setR_al, x_varM, x_litM, x_liftO_v, x_liftO_fr, x_liftO_n, x_bin2, x_peek2, x_un1, x_asB, x_toB, x_andM, x_orM, x_notM, x_andV, x_orV, x_notV, x_nilA, x_consA, x_nilV, x_consV, x_tupM, x_lstM, x_callM, x_toV, x_toP, x_toPr_v, x_toPr_fr, x_toPr_al, callR_ok, x_callF, x_isaM, x_chainM, x_noPartM, x_partM, x_sliceM, x_setIx, x_mutM, x_mutK, x_par2, x_par3, x_asgS, x_setD, x_tupG, x_consG, x_nilG, x_seqN, x_enumN, x_seqV, x_enumI, x_zipI, x_rng1, x_rng2, x_sortSetM, x_rgM, kt_NoneType_int, kt_NoneType_bool, kt_NoneType_str, kt_NoneType_tuple, kt_NoneType_list, kt_NoneType_dict, kt_bool_int, kt_bool_bool, kt_bool_str, kt_bool_tuple, kt_bool_list, kt_bool_dict, kt_int_int, kt_int_bool, kt_int_str, kt_int_tuple, kt_int_list, kt_int_dict, kt_str_int, kt_str_bool, kt_str_str, kt_str_tuple, kt_str_list, kt_str_dict, kt_tuple_int, kt_tuple_bool, kt_tuple_str, kt_tuple_tuple, kt_tuple_list, kt_tuple_dict, kt_list_int, kt_list_bool, kt_list_str, kt_list_tuple, kt_list_list, kt_list_dict, Int.reduceLE, Int.reduceSub, Int.reduceToNat, Int.reduceNeg, and_self, true_and, and_true, a1, a2, a3, a4, lc, all_mapT, rl, x_forS, ws]
  · refine ⟨r, ?_, hr⟩
    have ws := withSrc_some (en := [.v (.int n), .v (.str k.str), .v (.tup (ws.map encW)), .mu .own (.lst (cs.map encC)), .mu .own (.lst (rows.map fun r => .lst (intL r))), .no, .no, .no, .no, .no]) (i := 3) (kk := .own) (d := .lst (cs.map encC)) (K := forL (tupG 2 (consG (setD 5) (consG (setD 6) nilG))) (forS src2T (setD 7) b2T)) rfl e
    simp only [x_free0, x_freeS, free1_v, free1_no, free1_own, peek, peekL, thaw, argSls, argSl, als, nodup?, putBack, stepBack, tyOf, mutK, shOk, plainR, outs, x_seqS, List.replicate, List.append_nil, List.nil_append, List.cons_append, List.getElem?_cons_zero, List.getElem?_cons_succ, List.set_cons_zero, List.set_cons_succ, if_true, Bool.false_eq_true, if_false, reduceIte, List.contains_nil, List.contains_cons, Bool.not_false, Bool.not_true, Bool.and_true, Bool.true_and, Bool.and_false, Bool.or_false, Bool.false_or, Bool.false_and, Bool.true_or, Bool.or_true, addG_int, subI_int, eqG_int, neG_int, eqG_bl, neG_bl, cmpI_int, intG, lenG, absG, List.length_cons, sizeLine_eq, Nat.reduceLeDiff, Nat.reduceLT, Nat.zero_le, Nat.zero_add, List.length_nil, Nat.reduceAdd, beq_self_eq_true, Nat.reduceBEq, reduceCtorEq, Nat.reduceEqDiff, bd_ok, bd_bad, bd_err, x_nopS, x_badS, x_bkS, x_ctS, x_ifM, x_ifS, x_dropS, x_retS, x_retR_v, x_retR_fr, x_retR_al, x_retN, x_setS, x_setR_v, x_setR_fr, x_setR_al, x_varM, x_litM, x_liftO_v, x_liftO_fr, x_liftO_n, x_bin2, x_peek2, x_un1, x_asB, x_toB, x_andM, x_orM, x_notM, x_andV, x_orV, x_notV, x_nilA, x_consA, x_nilV, x_consV, x_tupM, x_lstM, x_callM, x_toV, x_toP, x_toPr_v, x_toPr_fr, x_toPr_al, callR_ok, x_callF, x_isaM, x_chainM, x_noPartM, x_partM, x_sliceM, x_setIx, x_mutM, x_mutK, x_par2, x_par3, x_asgS, x_setD, x_tupG, x_consG, x_nilG, x_seqN, x_enumN, x_seqV, x_enumI, x_zipI, x_rng1, x_rng2, x_sortSetM, x_rgM, kt_NoneType_int, kt_NoneType_bool, kt_NoneType_str, kt_NoneType_tuple, kt_NoneType_list, kt_NoneType_dict, kt_bool_int, kt_bool_bool, kt_bool_str, kt_bool_tuple, kt_bool_list, kt_bool_dict, kt_int_int, kt_int_bool, kt_int_str, kt_int_tuple, kt_int_list, kt_int_dict, kt_str_int, kt_str_bool, kt_str_str, kt_str_tuple, kt_str_list, kt_str_dict, kt_tuple_int, kt_tuple_bool, kt_tuple_str, kt_tuple_tuple, kt_tuple_list, kt_tuple_dict, kt_list_int, kt_list_bool, kt_list_str, kt_list_tuple, kt_list_list, kt_list_dict, Int.reduceLE, Int.reduceSub, Int.reduceToNat, Int.reduceNeg, and_self, true_and, and_true, a1, a2, a3, a4, lc, all_mapT, rl, x_forS, ws]
end K59
set_option linter.all false
set_option maxRecDepth 100000
set_option maxHeartbeats 4000000
namespace K59
open PySem PySem.Spec PyProof.Rows L2 Fw
theorem app_ok {xs : List D} {d : D} (h : xs.length < 100000) : appendF (.lst xs) [d] = some (.lst (xs ++ [d]), .non) := by
  show (if xs.length < sizeLine then _ else _) = _
  rw [if_pos (by rw [sizeLine_eq]; omega)]
theorem lcases_ok {n : Nat} (k : Kd) (h2 : n ≤ 12) : F__law_cases [.v (.int n), .v (.str k.str)] = .ok (.fr (.lst ((casesL n k).map encC))) [.v (.int n), .v (.str k.str)] := by
  have kh := kd_heavy2 k
  have kn := kd_none k
  have t : -16777216 ≤ (n : Int) ∧ (n : Int) ≤ 16777216 := by omega
  have ap : ∀ {X : List D} {d : D}, X.length ≤ 100 → appendF (.lst X) [d] = some (.lst (X ++ [d]), .non) := fun h => app_ok (by omega)
  have ap2 : ∀ {X : List D} {d e : D}, X.length ≤ 100 → appendF (.lst (X ++ [d])) [e] = some (.lst (X ++ [d, e]), .non) := fun h => by rw [app_ok (by simp; omega)]; simp
  cases k with
  | hv =>
    obtain ⟨s3', g⟩ := grow (n := n) (s0 := .v (.str Kd.hv.str)) (base := []) (f := fun c => [some (c, 1)]) (body := (seqS (ifS (toB (bin2 neG (varM 1) (litM (.str "heavy")))) (dropS (mutM "list" 2 appendF (consV (toV (tupM (consV (toV (varM 3)) (consV (toV (un1 negG (litM (.int 1)))) nilV)))) nilV))) nopS)
  (dropS (mutM "list" 2 appendF (consV (toV (tupM (consV (toV (varM 3)) (consV (toV (litM (.int 1))) nilV)))) nilV))))) h2 (by simp) (fun c => by simp) (fun c X hX => by
      simp only [x_free0, x_freeS, free1_v, free1_no, free1_own, peek, peekL, thaw, argSls, argSl, als, nodup?, putBack, stepBack, tyOf, mutK, shOk, plainR, outs, x_seqS, List.replicate, List.append_nil, List.nil_append, List.cons_append, List.getElem?_cons_zero, List.getElem?_cons_succ, List.set_cons_zero, List.set_cons_succ, if_true, Bool.false_eq_true, if_false, reduceIte, List.contains_nil, List.contains_cons, Bool.not_false, Bool.not_true, Bool.and_true, Bool.true_and, Bool.and_false, Bool.or_false, Bool.false_or, Bool.false_and, Bool.true_or, Bool.or_true, addG_int, subI_int, eqG_int, neG_int, eqG_bl, neG_bl, cmpI_int, intG, lenG, absG, List.length_cons, sizeLine_eq, Nat.reduceLeDiff, Nat.reduceLT, Nat.zero_le, Nat.zero_add, List.length_nil, Nat.reduceAdd, beq_self_eq_true, Nat.reduceBEq, reduceCtorEq, Nat.reduceEqDiff, bd_ok, bd_bad, bd_err, x_nopS, x_badS, x_bkS, x_ctS, x_ifM, x_ifS, x_dropS, x_retS, x_retR_v, x_retR_fr, x_retR_al, x_retN, x_setS, x_setR_v, x_setR_fr, x_setR_al, x_varM, x_litM, x_liftO_v, x_liftO_fr, x_liftO_n, x_bin2, x_peek2, x_un1, x_asB, x_toB, x_andM, x_orM, x_notM, x_andV, x_orV, x_notV, x_nilA, x_consA, x_nilV, x_consV, x_tupM, x_lstM, x_callM, x_toV, x_toP, x_toPr_v, x_toPr_fr, x_toPr_al, callR_ok, x_callF, x_isaM, x_chainM, x_noPartM, x_partM, x_sliceM, x_setIx, x_mutM, x_mutK, x_par2, x_par3, x_asgS, x_setD, x_tupG, x_consG, x_nilG, x_seqN, x_enumN, x_seqV, x_enumI, x_zipI, x_rng1, x_rng2, x_sortSetM, x_rgM, kt_NoneType_int, kt_NoneType_bool, kt_NoneType_str, kt_NoneType_tuple, kt_NoneType_list, kt_NoneType_dict, kt_bool_int, kt_bool_bool, kt_bool_str, kt_bool_tuple, kt_bool_list, kt_bool_dict, kt_int_int, kt_int_bool, kt_int_str, kt_int_tuple, kt_int_list, kt_int_dict, kt_str_int, kt_str_bool, kt_str_str, kt_str_tuple, kt_str_list, kt_str_dict, kt_tuple_int, kt_tuple_bool, kt_tuple_str, kt_tuple_tuple, kt_tuple_list, kt_tuple_dict, kt_list_int, kt_list_bool, kt_list_str, kt_list_tuple, kt_list_list, kt_list_dict, Int.reduceLE, Int.reduceSub, Int.reduceToNat, Int.reduceNeg, and_self, true_and, and_true, kh, ap hX, List.map_cons, List.map_nil, encC, BEq.rfl])
    unfold F__law_cases fnD b__law_cases
    simp only [List.map_nil, List.nil_append] at g
    simp only [x_free0, x_freeS, free1_v, free1_no, free1_own, peek, peekL, thaw, argSls, argSl, als, nodup?, putBack, stepBack, tyOf, mutK, shOk, plainR, outs, x_seqS, List.replicate, List.append_nil, List.nil_append, List.cons_append, List.getElem?_cons_zero, List.getElem?_cons_succ, List.set_cons_zero, List.set_cons_succ, if_true, Bool.false_eq_true, if_false, reduceIte, List.contains_nil, List.contains_cons, Bool.not_false, Bool.not_true, Bool.and_true, Bool.true_and, Bool.and_false, Bool.or_false, Bool.false_or, Bool.false_and, Bool.true_or, Bool.or_true, addG_int, subI_int, eqG_int, neG_int, eqG_bl, neG_bl, cmpI_int, intG, lenG, absG, List.length_cons, sizeLine_eq, Nat.reduceLeDiff, Nat.reduceLT, Nat.zero_le, Nat.zero_add, List.length_nil, Nat.reduceAdd, beq_self_eq_true, Nat.reduceBEq, reduceCtorEq, Nat.reduceEqDiff, bd_ok, bd_bad, bd_err, x_nopS, x_badS, x_bkS, x_ctS, x_ifM, x_ifS, x_dropS, x_retS, x_retR_v, x_retR_fr, x_retR_al, x_retN, x_setS, x_setR_v, x_setR_fr, x_setR_al, x_varM, x_litM, x_liftO_v, x_liftO_fr, x_liftO_n, x_bin2, x_peek2, x_un1, x_asB, x_toB, x_andM, x_orM, x_notM, x_andV, x_orV, x_notV, x_nilA, x_consA, x_nilV, x_consV, x_tupM, x_lstM, x_callM, x_toV, x_toP, x_toPr_v, x_toPr_fr, x_toPr_al, callR_ok, x_callF, x_isaM, x_chainM, x_noPartM, x_partM, x_sliceM, x_setIx, x_mutM, x_mutK, x_par2, x_par3, x_asgS, x_setD, x_tupG, x_consG, x_nilG, x_seqN, x_enumN, x_seqV, x_enumI, x_zipI, x_rng1, x_rng2, x_sortSetM, x_rgM, kt_NoneType_int, kt_NoneType_bool, kt_NoneType_str, kt_NoneType_tuple, kt_NoneType_list, kt_NoneType_dict, kt_bool_int, kt_bool_bool, kt_bool_str, kt_bool_tuple, kt_bool_list, kt_bool_dict, kt_int_int, kt_int_bool, kt_int_str, kt_int_tuple, kt_int_list, kt_int_dict, kt_str_int, kt_str_bool, kt_str_str, kt_str_tuple, kt_str_list, kt_str_dict, kt_tuple_int, kt_tuple_bool, kt_tuple_str, kt_tuple_tuple, kt_tuple_list, kt_tuple_dict, kt_list_int, kt_list_bool, kt_list_str, kt_list_tuple, kt_list_list, kt_list_dict, Int.reduceLE, Int.reduceSub, Int.reduceToNat, Int.reduceNeg, and_self, true_and, and_true, kn, x_forS, t, rangeL_rg, x_withSrc_none, g]
    have e : ((rg n).flatMap fun c => ([some (c, 1)] : List Cs)) = casesL n .hv := by
      unfold casesL
      generalize rg n = l
      induction l with
      | nil => rfl
      | cons x l ih => rw [List.flatMap_cons, ih]; rfl
    rw [e]
  | ei =>
    obtain ⟨s3', g⟩ := grow (n := n) (s0 := .v (.str Kd.ei.str)) (base := []) (f := two) (body := (seqS (ifS (toB (bin2 neG (varM 1) (litM (.str "heavy")))) (dropS (mutM "list" 2 appendF (consV (toV (tupM (consV (toV (varM 3)) (consV (toV (un1 negG (litM (.int 1)))) nilV)))) nilV))) nopS)
  (dropS (mutM "list" 2 appendF (consV (toV (tupM (consV (toV (varM 3)) (consV (toV (litM (.int 1))) nilV)))) nilV))))) h2 (by simp) (fun c => by simp [two]) (fun c X hX => by
      simp only [x_free0, x_freeS, free1_v, free1_no, free1_own, peek, peekL, thaw, argSls, argSl, als, nodup?, putBack, stepBack, tyOf, mutK, shOk, plainR, outs, x_seqS, List.replicate, List.append_nil, List.nil_append, List.cons_append, List.getElem?_cons_zero, List.getElem?_cons_succ, List.set_cons_zero, List.set_cons_succ, if_true, Bool.false_eq_true, if_false, reduceIte, List.contains_nil, List.contains_cons, Bool.not_false, Bool.not_true, Bool.and_true, Bool.true_and, Bool.and_false, Bool.or_false, Bool.false_or, Bool.false_and, Bool.true_or, Bool.or_true, addG_int, subI_int, eqG_int, neG_int, eqG_bl, neG_bl, cmpI_int, intG, lenG, absG, List.length_cons, sizeLine_eq, Nat.reduceLeDiff, Nat.reduceLT, Nat.zero_le, Nat.zero_add, List.length_nil, Nat.reduceAdd, beq_self_eq_true, Nat.reduceBEq, reduceCtorEq, Nat.reduceEqDiff, bd_ok, bd_bad, bd_err, x_nopS, x_badS, x_bkS, x_ctS, x_ifM, x_ifS, x_dropS, x_retS, x_retR_v, x_retR_fr, x_retR_al, x_retN, x_setS, x_setR_v, x_setR_fr, x_setR_al, x_varM, x_litM, x_liftO_v, x_liftO_fr, x_liftO_n, x_bin2, x_peek2, x_un1, x_asB, x_toB, x_andM, x_orM, x_notM, x_andV, x_orV, x_notV, x_nilA, x_consA, x_nilV, x_consV, x_tupM, x_lstM, x_callM, x_toV, x_toP, x_toPr_v, x_toPr_fr, x_toPr_al, callR_ok, x_callF, x_isaM, x_chainM, x_noPartM, x_partM, x_sliceM, x_setIx, x_mutM, x_mutK, x_par2, x_par3, x_asgS, x_setD, x_tupG, x_consG, x_nilG, x_seqN, x_enumN, x_seqV, x_enumI, x_zipI, x_rng1, x_rng2, x_sortSetM, x_rgM, kt_NoneType_int, kt_NoneType_bool, kt_NoneType_str, kt_NoneType_tuple, kt_NoneType_list, kt_NoneType_dict, kt_bool_int, kt_bool_bool, kt_bool_str, kt_bool_tuple, kt_bool_list, kt_bool_dict, kt_int_int, kt_int_bool, kt_int_str, kt_int_tuple, kt_int_list, kt_int_dict, kt_str_int, kt_str_bool, kt_str_str, kt_str_tuple, kt_str_list, kt_str_dict, kt_tuple_int, kt_tuple_bool, kt_tuple_str, kt_tuple_tuple, kt_tuple_list, kt_tuple_dict, kt_list_int, kt_list_bool, kt_list_str, kt_list_tuple, kt_list_list, kt_list_dict, Int.reduceLE, Int.reduceSub, Int.reduceToNat, Int.reduceNeg, and_self, true_and, and_true, kh, neg1, two, ap hX, ap2 hX, List.map_cons, List.map_nil, encC, BEq.rfl])
    unfold F__law_cases fnD b__law_cases
    simp only [List.map_nil, List.nil_append] at g
    simp only [x_free0, x_freeS, free1_v, free1_no, free1_own, peek, peekL, thaw, argSls, argSl, als, nodup?, putBack, stepBack, tyOf, mutK, shOk, plainR, outs, x_seqS, List.replicate, List.append_nil, List.nil_append, List.cons_append, List.getElem?_cons_zero, List.getElem?_cons_succ, List.set_cons_zero, List.set_cons_succ, if_true, Bool.false_eq_true, if_false, reduceIte, List.contains_nil, List.contains_cons, Bool.not_false, Bool.not_true, Bool.and_true, Bool.true_and, Bool.and_false, Bool.or_false, Bool.false_or, Bool.false_and, Bool.true_or, Bool.or_true, addG_int, subI_int, eqG_int, neG_int, eqG_bl, neG_bl, cmpI_int, intG, lenG, absG, List.length_cons, sizeLine_eq, Nat.reduceLeDiff, Nat.reduceLT, Nat.zero_le, Nat.zero_add, List.length_nil, Nat.reduceAdd, beq_self_eq_true, Nat.reduceBEq, reduceCtorEq, Nat.reduceEqDiff, bd_ok, bd_bad, bd_err, x_nopS, x_badS, x_bkS, x_ctS, x_ifM, x_ifS, x_dropS, x_retS, x_retR_v, x_retR_fr, x_retR_al, x_retN, x_setS, x_setR_v, x_setR_fr, x_setR_al, x_varM, x_litM, x_liftO_v, x_liftO_fr, x_liftO_n, x_bin2, x_peek2, x_un1, x_asB, x_toB, x_andM, x_orM, x_notM, x_andV, x_orV, x_notV, x_nilA, x_consA, x_nilV, x_consV, x_tupM, x_lstM, x_callM, x_toV, x_toP, x_toPr_v, x_toPr_fr, x_toPr_al, callR_ok, x_callF, x_isaM, x_chainM, x_noPartM, x_partM, x_sliceM, x_setIx, x_mutM, x_mutK, x_par2, x_par3, x_asgS, x_setD, x_tupG, x_consG, x_nilG, x_seqN, x_enumN, x_seqV, x_enumI, x_zipI, x_rng1, x_rng2, x_sortSetM, x_rgM, kt_NoneType_int, kt_NoneType_bool, kt_NoneType_str, kt_NoneType_tuple, kt_NoneType_list, kt_NoneType_dict, kt_bool_int, kt_bool_bool, kt_bool_str, kt_bool_tuple, kt_bool_list, kt_bool_dict, kt_int_int, kt_int_bool, kt_int_str, kt_int_tuple, kt_int_list, kt_int_dict, kt_str_int, kt_str_bool, kt_str_str, kt_str_tuple, kt_str_list, kt_str_dict, kt_tuple_int, kt_tuple_bool, kt_tuple_str, kt_tuple_tuple, kt_tuple_list, kt_tuple_dict, kt_list_int, kt_list_bool, kt_list_str, kt_list_tuple, kt_list_list, kt_list_dict, Int.reduceLE, Int.reduceSub, Int.reduceToNat, Int.reduceNeg, and_self, true_and, and_true, kn, x_forS, t, rangeL_rg, x_withSrc_none, g]
    rfl
  | on =>
    obtain ⟨s3', g⟩ := grow (n := n) (s0 := .v (.str Kd.on.str)) (base := [none]) (f := two) (body := (seqS (ifS (toB (bin2 neG (varM 1) (litM (.str "heavy")))) (dropS (mutM "list" 2 appendF (consV (toV (tupM (consV (toV (varM 3)) (consV (toV (un1 negG (litM (.int 1)))) nilV)))) nilV))) nopS)
  (dropS (mutM "list" 2 appendF (consV (toV (tupM (consV (toV (varM 3)) (consV (toV (litM (.int 1))) nilV)))) nilV))))) h2 (by simp) (fun c => by simp [two]) (fun c X hX => by
      simp only [x_free0, x_freeS, free1_v, free1_no, free1_own, peek, peekL, thaw, argSls, argSl, als, nodup?, putBack, stepBack, tyOf, mutK, shOk, plainR, outs, x_seqS, List.replicate, List.append_nil, List.nil_append, List.cons_append, List.getElem?_cons_zero, List.getElem?_cons_succ, List.set_cons_zero, List.set_cons_succ, if_true, Bool.false_eq_true, if_false, reduceIte, List.contains_nil, List.contains_cons, Bool.not_false, Bool.not_true, Bool.and_true, Bool.true_and, Bool.and_false, Bool.or_false, Bool.false_or, Bool.false_and, Bool.true_or, Bool.or_true, addG_int, subI_int, eqG_int, neG_int, eqG_bl, neG_bl, cmpI_int, intG, lenG, absG, List.length_cons, sizeLine_eq, Nat.reduceLeDiff, Nat.reduceLT, Nat.zero_le, Nat.zero_add, List.length_nil, Nat.reduceAdd, beq_self_eq_true, Nat.reduceBEq, reduceCtorEq, Nat.reduceEqDiff, bd_ok, bd_bad, bd_err, x_nopS, x_badS, x_bkS, x_ctS, x_ifM, x_ifS, x_dropS, x_retS, x_retR_v, x_retR_fr, x_retR_al, x_retN, x_setS, x_setR_v, x_setR_fr, x_setR_al, x_varM, x_litM, x_liftO_v, x_liftO_fr, x_liftO_n, x_bin2, x_peek2, x_un1, x_asB, x_toB, x_andM, x_orM, x_notM, x_andV, x_orV, x_notV, x_nilA, x_consA, x_nilV, x_consV, x_tupM, x_lstM, x_callM, x_toV, x_toP, x_toPr_v, x_toPr_fr, x_toPr_al, callR_ok, x_callF, x_isaM, x_chainM, x_noPartM, x_partM, x_sliceM, x_setIx, x_mutM, x_mutK, x_par2, x_par3, x_asgS, x_setD, x_tupG, x_consG, x_nilG, x_seqN, x_enumN, x_seqV, x_enumI, x_zipI, x_rng1, x_rng2, x_sortSetM, x_rgM, kt_NoneType_int, kt_NoneType_bool, kt_NoneType_str, kt_NoneType_tuple, kt_NoneType_list, kt_NoneType_dict, kt_bool_int, kt_bool_bool, kt_bool_str, kt_bool_tuple, kt_bool_list, kt_bool_dict, kt_int_int, kt_int_bool, kt_int_str, kt_int_tuple, kt_int_list, kt_int_dict, kt_str_int, kt_str_bool, kt_str_str, kt_str_tuple, kt_str_list, kt_str_dict, kt_tuple_int, kt_tuple_bool, kt_tuple_str, kt_tuple_tuple, kt_tuple_list, kt_tuple_dict, kt_list_int, kt_list_bool, kt_list_str, kt_list_tuple, kt_list_list, kt_list_dict, Int.reduceLE, Int.reduceSub, Int.reduceToNat, Int.reduceNeg, and_self, true_and, and_true, kh, neg1, two, ap hX, ap2 hX, List.map_cons, List.map_nil, encC, BEq.rfl])
    unfold F__law_cases fnD b__law_cases
    simp only [List.map_cons, List.map_nil, encC] at g
    simp only [x_free0, x_freeS, free1_v, free1_no, free1_own, peek, peekL, thaw, argSls, argSl, als, nodup?, putBack, stepBack, tyOf, mutK, shOk, plainR, outs, x_seqS, List.replicate, List.append_nil, List.nil_append, List.cons_append, List.getElem?_cons_zero, List.getElem?_cons_succ, List.set_cons_zero, List.set_cons_succ, if_true, Bool.false_eq_true, if_false, reduceIte, List.contains_nil, List.contains_cons, Bool.not_false, Bool.not_true, Bool.and_true, Bool.true_and, Bool.and_false, Bool.or_false, Bool.false_or, Bool.false_and, Bool.true_or, Bool.or_true, addG_int, subI_int, eqG_int, neG_int, eqG_bl, neG_bl, cmpI_int, intG, lenG, absG, List.length_cons, sizeLine_eq, Nat.reduceLeDiff, Nat.reduceLT, Nat.zero_le, Nat.zero_add, List.length_nil, Nat.reduceAdd, beq_self_eq_true, Nat.reduceBEq, reduceCtorEq, Nat.reduceEqDiff, bd_ok, bd_bad, bd_err, x_nopS, x_badS, x_bkS, x_ctS, x_ifM, x_ifS, x_dropS, x_retS, x_retR_v, x_retR_fr, x_retR_al, x_retN, x_setS, x_setR_v, x_setR_fr, x_setR_al, x_varM, x_litM, x_liftO_v, x_liftO_fr, x_liftO_n, x_bin2, x_peek2, x_un1, x_asB, x_toB, x_andM, x_orM, x_notM, x_andV, x_orV, x_notV, x_nilA, x_consA, x_nilV, x_consV, x_tupM, x_lstM, x_callM, x_toV, x_toP, x_toPr_v, x_toPr_fr, x_toPr_al, callR_ok, x_callF, x_isaM, x_chainM, x_noPartM, x_partM, x_sliceM, x_setIx, x_mutM, x_mutK, x_par2, x_par3, x_asgS, x_setD, x_tupG, x_consG, x_nilG, x_seqN, x_enumN, x_seqV, x_enumI, x_zipI, x_rng1, x_rng2, x_sortSetM, x_rgM, kt_NoneType_int, kt_NoneType_bool, kt_NoneType_str, kt_NoneType_tuple, kt_NoneType_list, kt_NoneType_dict, kt_bool_int, kt_bool_bool, kt_bool_str, kt_bool_tuple, kt_bool_list, kt_bool_dict, kt_int_int, kt_int_bool, kt_int_str, kt_int_tuple, kt_int_list, kt_int_dict, kt_str_int, kt_str_bool, kt_str_str, kt_str_tuple, kt_str_list, kt_str_dict, kt_tuple_int, kt_tuple_bool, kt_tuple_str, kt_tuple_tuple, kt_tuple_list, kt_tuple_dict, kt_list_int, kt_list_bool, kt_list_str, kt_list_tuple, kt_list_list, kt_list_dict, Int.reduceLE, Int.reduceSub, Int.reduceToNat, Int.reduceNeg, and_self, true_and, and_true, kn, x_forS, t, rangeL_rg, x_withSrc_none, g]
    rfl
theorem lrow_lc {ws : List Wg} {c : Cs} {s0 s1 s3 s4 s5 s6 s7 : Sl} : lcM (seqN 2) [9] (setD 9) yesM (toV (callF F__law_tells (consA (varM 9) (consA (varM 8) nilA)))) [s0, s1, .v (.tup (ws.map encW)), s3, s4, s5, s6, s7, .v (encC c), .no] =
    .ok (.fr (.lst (intL (rowOf ws c)))) [s0, s1, .v (.tup (ws.map encW)), s3, s4, s5, s6, s7, .v (encC c), .no] := by
  refine lcM_none' (ds := ws.map encW) (by simp only [x_free0, x_freeS, free1_v, free1_no, free1_own, peek, peekL, thaw, argSls, argSl, als, nodup?, putBack, stepBack, tyOf, mutK, shOk, plainR, outs, x_seqS, List.replicate, List.append_nil, List.nil_append, List.cons_append, List.getElem?_cons_zero, List.getElem?_cons_succ, List.set_cons_zero, List.set_cons_succ, if_true, Bool.false_eq_true, if_false, reduceIte, List.contains_nil, List.contains_cons, Bool.not_false, Bool.not_true, Bool.and_true, Bool.true_and, Bool.and_false, Bool.or_false, Bool.false_or, Bool.false_and, Bool.true_or, Bool.or_true, addG_int, subI_int, eqG_int, neG_int, eqG_bl, neG_bl, cmpI_int, intG, lenG, absG, List.length_cons, sizeLine_eq, Nat.reduceLeDiff, Nat.reduceLT, Nat.zero_le, Nat.zero_add, List.length_nil, Nat.reduceAdd, beq_self_eq_true, Nat.reduceBEq, reduceCtorEq, Nat.reduceEqDiff, bd_ok, bd_bad, bd_err, x_nopS, x_badS, x_bkS, x_ctS, x_ifM, x_ifS, x_dropS, x_retS, x_retR_v, x_retR_fr, x_retR_al, x_retN, x_setS, x_setR_v, x_setR_fr, x_setR_al, x_varM, x_litM, x_liftO_v, x_liftO_fr, x_liftO_n, x_bin2, x_peek2, x_un1, x_asB, x_toB, x_andM, x_orM, x_notM, x_andV, x_orV, x_notV, x_nilA, x_consA, x_nilV, x_consV, x_tupM, x_lstM, x_callM, x_toV, x_toP, x_toPr_v, x_toPr_fr, x_toPr_al, callR_ok, x_callF, x_isaM, x_chainM, x_noPartM, x_partM, x_sliceM, x_setIx, x_mutM, x_mutK, x_par2, x_par3, x_asgS, x_setD, x_tupG, x_consG, x_nilG, x_seqN, x_enumN, x_seqV, x_enumI, x_zipI, x_rng1, x_rng2, x_sortSetM, x_rgM, kt_NoneType_int, kt_NoneType_bool, kt_NoneType_str, kt_NoneType_tuple, kt_NoneType_list, kt_NoneType_dict, kt_bool_int, kt_bool_bool, kt_bool_str, kt_bool_tuple, kt_bool_list, kt_bool_dict, kt_int_int, kt_int_bool, kt_int_str, kt_int_tuple, kt_int_list, kt_int_dict, kt_str_int, kt_str_bool, kt_str_str, kt_str_tuple, kt_str_list, kt_str_dict, kt_tuple_int, kt_tuple_bool, kt_tuple_str, kt_tuple_tuple, kt_tuple_list, kt_tuple_dict, kt_list_int, kt_list_bool, kt_list_str, kt_list_tuple, kt_list_list, kt_list_dict, Int.reduceLE, Int.reduceSub, Int.reduceToNat, Int.reduceNeg, and_self, true_and, and_true]) ?_
  have e : intL (rowOf ws c) = ws.map fun w => .int (tells w c) := by unfold intL rowOf; rw [List.map_map]; rfl
  rw [e]
  refine lcL_mapX encW _ fun w _ => ?_
  have t := law_tells_ok w c
  refine ⟨[s0, s1, .v (.tup (ws.map encW)), s3, s4, s5, s6, s7, .v (encC c), .v (encW w)], [s0, s1, .v (.tup (ws.map encW)), s3, s4, s5, s6, s7, .v (encC c), .v (encW w)], ?_, ?_, rfl⟩
  · simp only [x_free0, x_freeS, free1_v, free1_no, free1_own, peek, peekL, thaw, argSls, argSl, als, nodup?, putBack, stepBack, tyOf, mutK, shOk, plainR, outs, x_seqS, List.replicate, List.append_nil, List.nil_append, List.cons_append, List.getElem?_cons_zero, List.getElem?_cons_succ, List.set_cons_zero, List.set_cons_succ, if_true, Bool.false_eq_true, if_false, reduceIte, List.contains_nil, List.contains_cons, Bool.not_false, Bool.not_true, Bool.and_true, Bool.true_and, Bool.and_false, Bool.or_false, Bool.false_or, Bool.false_and, Bool.true_or, Bool.or_true, addG_int, subI_int, eqG_int, neG_int, eqG_bl, neG_bl, cmpI_int, intG, lenG, absG, List.length_cons, sizeLine_eq, Nat.reduceLeDiff, Nat.reduceLT, Nat.zero_le, Nat.zero_add, List.length_nil, Nat.reduceAdd, beq_self_eq_true, Nat.reduceBEq, reduceCtorEq, Nat.reduceEqDiff, bd_ok, bd_bad, bd_err, x_nopS, x_badS, x_bkS, x_ctS, x_ifM, x_ifS, x_dropS, x_retS, x_retR_v, x_retR_fr, x_retR_al, x_retN, x_setS, x_setR_v, x_setR_fr, x_setR_al, x_varM, x_litM, x_liftO_v, x_liftO_fr, x_liftO_n, x_bin2, x_peek2, x_un1, x_asB, x_toB, x_andM, x_orM, x_notM, x_andV, x_orV, x_notV, x_nilA, x_consA, x_nilV, x_consV, x_tupM, x_lstM, x_callM, x_toV, x_toP, x_toPr_v, x_toPr_fr, x_toPr_al, callR_ok, x_callF, x_isaM, x_chainM, x_noPartM, x_partM, x_sliceM, x_setIx, x_mutM, x_mutK, x_par2, x_par3, x_asgS, x_setD, x_tupG, x_consG, x_nilG, x_seqN, x_enumN, x_seqV, x_enumI, x_zipI, x_rng1, x_rng2, x_sortSetM, x_rgM, kt_NoneType_int, kt_NoneType_bool, kt_NoneType_str, kt_NoneType_tuple, kt_NoneType_list, kt_NoneType_dict, kt_bool_int, kt_bool_bool, kt_bool_str, kt_bool_tuple, kt_bool_list, kt_bool_dict, kt_int_int, kt_int_bool, kt_int_str, kt_int_tuple, kt_int_list, kt_int_dict, kt_str_int, kt_str_bool, kt_str_str, kt_str_tuple, kt_str_list, kt_str_dict, kt_tuple_int, kt_tuple_bool, kt_tuple_str, kt_tuple_tuple, kt_tuple_list, kt_tuple_dict, kt_list_int, kt_list_bool, kt_list_str, kt_list_tuple, kt_list_list, kt_list_dict, Int.reduceLE, Int.reduceSub, Int.reduceToNat, Int.reduceNeg, and_self, true_and, and_true, wipeE]
  · simp only [x_free0, x_freeS, free1_v, free1_no, free1_own, peek, peekL, thaw, argSls, argSl, als, nodup?, putBack, stepBack, tyOf, mutK, shOk, plainR, outs, x_seqS, List.replicate, List.append_nil, List.nil_append, List.cons_append, List.getElem?_cons_zero, List.getElem?_cons_succ, List.set_cons_zero, List.set_cons_succ, if_true, Bool.false_eq_true, if_false, reduceIte, List.contains_nil, List.contains_cons, Bool.not_false, Bool.not_true, Bool.and_true, Bool.true_and, Bool.and_false, Bool.or_false, Bool.false_or, Bool.false_and, Bool.true_or, Bool.or_true, addG_int, subI_int, eqG_int, neG_int, eqG_bl, neG_bl, cmpI_int, intG, lenG, absG, List.length_cons, sizeLine_eq, Nat.reduceLeDiff, Nat.reduceLT, Nat.zero_le, Nat.zero_add, List.length_nil, Nat.reduceAdd, beq_self_eq_true, Nat.reduceBEq, reduceCtorEq, Nat.reduceEqDiff, bd_ok, bd_bad, bd_err, x_nopS, x_badS, x_bkS, x_ctS, x_ifM, x_ifS, x_dropS, x_retS, x_retR_v, x_retR_fr, x_retR_al, x_retN, x_setS, x_setR_v, x_setR_fr, x_setR_al, x_varM, x_litM, x_liftO_v, x_liftO_fr, x_liftO_n, x_bin2, x_peek2, x_un1, x_asB, x_toB, x_andM, x_orM, x_notM, x_andV, x_orV, x_notV, x_nilA, x_consA, x_nilV, x_consV, x_tupM, x_lstM, x_callM, x_toV, x_toP, x_toPr_v, x_toPr_fr, x_toPr_al, callR_ok, x_callF, x_isaM, x_chainM, x_noPartM, x_partM, x_sliceM, x_setIx, x_mutM, x_mutK, x_par2, x_par3, x_asgS, x_setD, x_tupG, x_consG, x_nilG, x_seqN, x_enumN, x_seqV, x_enumI, x_zipI, x_rng1, x_rng2, x_sortSetM, x_rgM, kt_NoneType_int, kt_NoneType_bool, kt_NoneType_str, kt_NoneType_tuple, kt_NoneType_list, kt_NoneType_dict, kt_bool_int, kt_bool_bool, kt_bool_str, kt_bool_tuple, kt_bool_list, kt_bool_dict, kt_int_int, kt_int_bool, kt_int_str, kt_int_tuple, kt_int_list, kt_int_dict, kt_str_int, kt_str_bool, kt_str_str, kt_str_tuple, kt_str_list, kt_str_dict, kt_tuple_int, kt_tuple_bool, kt_tuple_str, kt_tuple_tuple, kt_tuple_list, kt_tuple_dict, kt_list_int, kt_list_bool, kt_list_str, kt_list_tuple, kt_list_list, kt_list_dict, Int.reduceLE, Int.reduceSub, Int.reduceToNat, Int.reduceNeg, and_self, true_and, and_true, t]
theorem lrows_lc {ws : List Wg} {cs : List Cs} {s0 s1 : Sl} : lcM (seqN 3) [8] (setD 8) yesM (toV (callM tupleG (consA (lcM (seqN 2) [9] (setD 9) yesM (toV (callF F__law_tells (consA (varM 9) (consA (varM 8) nilA))))) nilA))) [s0, s1, .v (.tup (ws.map encW)), .mu .own (.lst (cs.map encC)), .no, .no, .no, .no, .no, .no] =
    .ok (.fr (.lst (cs.map fun c => .tup (intL (rowOf ws c))))) [s0, s1, .v (.tup (ws.map encW)), .mu .own (.lst (cs.map encC)), .no, .no, .no, .no, .no, .no] := by
  refine lcM_some' (i := 3) (k := .own) (d := .lst (cs.map encC)) (ds := cs.map encC) ?_ ?_ ?_
  · simp only [x_free0, x_freeS, free1_v, free1_no, free1_own, peek, peekL, thaw, argSls, argSl, als, nodup?, putBack, stepBack, tyOf, mutK, shOk, plainR, outs, x_seqS, List.replicate, List.append_nil, List.nil_append, List.cons_append, List.getElem?_cons_zero, List.getElem?_cons_succ, List.set_cons_zero, List.set_cons_succ, if_true, Bool.false_eq_true, if_false, reduceIte, List.contains_nil, List.contains_cons, Bool.not_false, Bool.not_true, Bool.and_true, Bool.true_and, Bool.and_false, Bool.or_false, Bool.false_or, Bool.false_and, Bool.true_or, Bool.or_true, addG_int, subI_int, eqG_int, neG_int, eqG_bl, neG_bl, cmpI_int, intG, lenG, absG, List.length_cons, sizeLine_eq, Nat.reduceLeDiff, Nat.reduceLT, Nat.zero_le, Nat.zero_add, List.length_nil, Nat.reduceAdd, beq_self_eq_true, Nat.reduceBEq, reduceCtorEq, Nat.reduceEqDiff, bd_ok, bd_bad, bd_err, x_nopS, x_badS, x_bkS, x_ctS, x_ifM, x_ifS, x_dropS, x_retS, x_retR_v, x_retR_fr, x_retR_al, x_retN, x_setS, x_setR_v, x_setR_fr, x_setR_al, x_varM, x_litM, x_liftO_v, x_liftO_fr, x_liftO_n, x_bin2, x_peek2, x_un1, x_asB, x_toB, x_andM, x_orM, x_notM, x_andV, x_orV, x_notV, x_nilA, x_consA, x_nilV, x_consV, x_tupM, x_lstM, x_callM, x_toV, x_toP, x_toPr_v, x_toPr_fr, x_toPr_al, callR_ok, x_callF, x_isaM, x_chainM, x_noPartM, x_partM, x_sliceM, x_setIx, x_mutM, x_mutK, x_par2, x_par3, x_asgS, x_setD, x_tupG, x_consG, x_nilG, x_seqN, x_enumN, x_seqV, x_enumI, x_zipI, x_rng1, x_rng2, x_sortSetM, x_rgM, kt_NoneType_int, kt_NoneType_bool, kt_NoneType_str, kt_NoneType_tuple, kt_NoneType_list, kt_NoneType_dict, kt_bool_int, kt_bool_bool, kt_bool_str, kt_bool_tuple, kt_bool_list, kt_bool_dict, kt_int_int, kt_int_bool, kt_int_str, kt_int_tuple, kt_int_list, kt_int_dict, kt_str_int, kt_str_bool, kt_str_str, kt_str_tuple, kt_str_list, kt_str_dict, kt_tuple_int, kt_tuple_bool, kt_tuple_str, kt_tuple_tuple, kt_tuple_list, kt_tuple_dict, kt_list_int, kt_list_bool, kt_list_str, kt_list_tuple, kt_list_list, kt_list_dict, Int.reduceLE, Int.reduceSub, Int.reduceToNat, Int.reduceNeg, and_self, true_and, and_true]
  · simp only [x_free0, x_freeS, free1_v, free1_no, free1_own, peek, peekL, thaw, argSls, argSl, als, nodup?, putBack, stepBack, tyOf, mutK, shOk, plainR, outs, x_seqS, List.replicate, List.append_nil, List.nil_append, List.cons_append, List.getElem?_cons_zero, List.getElem?_cons_succ, List.set_cons_zero, List.set_cons_succ, if_true, Bool.false_eq_true, if_false, reduceIte, List.contains_nil, List.contains_cons, Bool.not_false, Bool.not_true, Bool.and_true, Bool.true_and, Bool.and_false, Bool.or_false, Bool.false_or, Bool.false_and, Bool.true_or, Bool.or_true, addG_int, subI_int, eqG_int, neG_int, eqG_bl, neG_bl, cmpI_int, intG, lenG, absG, List.length_cons, sizeLine_eq, Nat.reduceLeDiff, Nat.reduceLT, Nat.zero_le, Nat.zero_add, List.length_nil, Nat.reduceAdd, beq_self_eq_true, Nat.reduceBEq, reduceCtorEq, Nat.reduceEqDiff, bd_ok, bd_bad, bd_err, x_nopS, x_badS, x_bkS, x_ctS, x_ifM, x_ifS, x_dropS, x_retS, x_retR_v, x_retR_fr, x_retR_al, x_retN, x_setS, x_setR_v, x_setR_fr, x_setR_al, x_varM, x_litM, x_liftO_v, x_liftO_fr, x_liftO_n, x_bin2, x_peek2, x_un1, x_asB, x_toB, x_andM, x_orM, x_notM, x_andV, x_orV, x_notV, x_nilA, x_consA, x_nilV, x_consV, x_tupM, x_lstM, x_callM, x_toV, x_toP, x_toPr_v, x_toPr_fr, x_toPr_al, callR_ok, x_callF, x_isaM, x_chainM, x_noPartM, x_partM, x_sliceM, x_setIx, x_mutM, x_mutK, x_par2, x_par3, x_asgS, x_setD, x_tupG, x_consG, x_nilG, x_seqN, x_enumN, x_seqV, x_enumI, x_zipI, x_rng1, x_rng2, x_sortSetM, x_rgM, kt_NoneType_int, kt_NoneType_bool, kt_NoneType_str, kt_NoneType_tuple, kt_NoneType_list, kt_NoneType_dict, kt_bool_int, kt_bool_bool, kt_bool_str, kt_bool_tuple, kt_bool_list, kt_bool_dict, kt_int_int, kt_int_bool, kt_int_str, kt_int_tuple, kt_int_list, kt_int_dict, kt_str_int, kt_str_bool, kt_str_str, kt_str_tuple, kt_str_list, kt_str_dict, kt_tuple_int, kt_tuple_bool, kt_tuple_str, kt_tuple_tuple, kt_tuple_list, kt_tuple_dict, kt_list_int, kt_list_bool, kt_list_str, kt_list_tuple, kt_list_list, kt_list_dict, Int.reduceLE, Int.reduceSub, Int.reduceToNat, Int.reduceNeg, and_self, true_and, and_true]
  · have z : ∀ s3 : Sl, wipeE ([s0, s1, .v (.tup (ws.map encW)), s3, .no, .no, .no, .no, .no, .no].set 3 (.mu .lck (.lst (cs.map encC)))) [8] = [s0, s1, .v (.tup (ws.map encW)), .mu .lck (.lst (cs.map encC)), .no, .no, .no, .no, .no, .no] := fun s3 => by simp only [wipeE, x_free0, x_freeS, free1_v, free1_no, free1_own, peek, peekL, thaw, argSls, argSl, als, nodup?, putBack, stepBack, tyOf, mutK, shOk, plainR, outs, x_seqS, List.replicate, List.append_nil, List.nil_append, List.cons_append, List.getElem?_cons_zero, List.getElem?_cons_succ, List.set_cons_zero, List.set_cons_succ, if_true, Bool.false_eq_true, if_false, reduceIte, List.contains_nil, List.contains_cons, Bool.not_false, Bool.not_true, Bool.and_true, Bool.true_and, Bool.and_false, Bool.or_false, Bool.false_or, Bool.false_and, Bool.true_or, Bool.or_true, addG_int, subI_int, eqG_int, neG_int, eqG_bl, neG_bl, cmpI_int, intG, lenG, absG, List.length_cons, sizeLine_eq, Nat.reduceLeDiff, Nat.reduceLT, Nat.zero_le, Nat.zero_add, List.length_nil, Nat.reduceAdd, beq_self_eq_true, Nat.reduceBEq, reduceCtorEq, Nat.reduceEqDiff, bd_ok, bd_bad, bd_err, x_nopS, x_badS, x_bkS, x_ctS, x_ifM, x_ifS, x_dropS, x_retS, x_retR_v, x_retR_fr, x_retR_al, x_retN, x_setS, x_setR_v, x_setR_fr, x_setR_al, x_varM, x_litM, x_liftO_v, x_liftO_fr, x_liftO_n, x_bin2, x_peek2, x_un1, x_asB, x_toB, x_andM, x_orM, x_notM, x_andV, x_orV, x_notV, x_nilA, x_consA, x_nilV, x_consV, x_tupM, x_lstM, x_callM, x_toV, x_toP, x_toPr_v, x_toPr_fr, x_toPr_al, callR_ok, x_callF, x_isaM, x_chainM, x_noPartM, x_partM, x_sliceM, x_setIx, x_mutM, x_mutK, x_par2, x_par3, x_asgS, x_setD, x_tupG, x_consG, x_nilG, x_seqN, x_enumN, x_seqV, x_enumI, x_zipI, x_rng1, x_rng2, x_sortSetM, x_rgM, kt_NoneType_int, kt_NoneType_bool, kt_NoneType_str, kt_NoneType_tuple, kt_NoneType_list, kt_NoneType_dict, kt_bool_int, kt_bool_bool, kt_bool_str, kt_bool_tuple, kt_bool_list, kt_bool_dict, kt_int_int, kt_int_bool, kt_int_str, kt_int_tuple, kt_int_list, kt_int_dict, kt_str_int, kt_str_bool, kt_str_str, kt_str_tuple, kt_str_list, kt_str_dict, kt_tuple_int, kt_tuple_bool, kt_tuple_str, kt_tuple_tuple, kt_tuple_list, kt_tuple_dict, kt_list_int, kt_list_bool, kt_list_str, kt_list_tuple, kt_list_list, kt_list_dict, Int.reduceLE, Int.reduceSub, Int.reduceToNat, Int.reduceNeg, and_self, true_and, and_true]
    rw [z]
    refine lcL_mapX encC _ fun c _ => ?_
    have t := lrow_lc (ws := ws) (c := c) (s0 := s0) (s1 := s1) (s3 := .mu .lck (.lst (cs.map encC))) (s4 := .no) (s5 := .no) (s6 := .no) (s7 := .no)
    refine ⟨[s0, s1, .v (.tup (ws.map encW)), .mu .lck (.lst (cs.map encC)), .no, .no, .no, .no, .v (encC c), .no], [s0, s1, .v (.tup (ws.map encW)), .mu .lck (.lst (cs.map encC)), .no, .no, .no, .no, .v (encC c), .no], ?_, ?_, ?_⟩
    · simp only [x_free0, x_freeS, free1_v, free1_no, free1_own, peek, peekL, thaw, argSls, argSl, als, nodup?, putBack, stepBack, tyOf, mutK, shOk, plainR, outs, x_seqS, List.replicate, List.append_nil, List.nil_append, List.cons_append, List.getElem?_cons_zero, List.getElem?_cons_succ, List.set_cons_zero, List.set_cons_succ, if_true, Bool.false_eq_true, if_false, reduceIte, List.contains_nil, List.contains_cons, Bool.not_false, Bool.not_true, Bool.and_true, Bool.true_and, Bool.and_false, Bool.or_false, Bool.false_or, Bool.false_and, Bool.true_or, Bool.or_true, addG_int, subI_int, eqG_int, neG_int, eqG_bl, neG_bl, cmpI_int, intG, lenG, absG, List.length_cons, sizeLine_eq, Nat.reduceLeDiff, Nat.reduceLT, Nat.zero_le, Nat.zero_add, List.length_nil, Nat.reduceAdd, beq_self_eq_true, Nat.reduceBEq, reduceCtorEq, Nat.reduceEqDiff, bd_ok, bd_bad, bd_err, x_nopS, x_badS, x_bkS, x_ctS, x_ifM, x_ifS, x_dropS, x_retS, x_retR_v, x_retR_fr, x_retR_al, x_retN, x_setS, x_setR_v, x_setR_fr, x_setR_al, x_varM, x_litM, x_liftO_v, x_liftO_fr, x_liftO_n, x_bin2, x_peek2, x_un1, x_asB, x_toB, x_andM, x_orM, x_notM, x_andV, x_orV, x_notV, x_nilA, x_consA, x_nilV, x_consV, x_tupM, x_lstM, x_callM, x_toV, x_toP, x_toPr_v, x_toPr_fr, x_toPr_al, callR_ok, x_callF, x_isaM, x_chainM, x_noPartM, x_partM, x_sliceM, x_setIx, x_mutM, x_mutK, x_par2, x_par3, x_asgS, x_setD, x_tupG, x_consG, x_nilG, x_seqN, x_enumN, x_seqV, x_enumI, x_zipI, x_rng1, x_rng2, x_sortSetM, x_rgM, kt_NoneType_int, kt_NoneType_bool, kt_NoneType_str, kt_NoneType_tuple, kt_NoneType_list, kt_NoneType_dict, kt_bool_int, kt_bool_bool, kt_bool_str, kt_bool_tuple, kt_bool_list, kt_bool_dict, kt_int_int, kt_int_bool, kt_int_str, kt_int_tuple, kt_int_list, kt_int_dict, kt_str_int, kt_str_bool, kt_str_str, kt_str_tuple, kt_str_list, kt_str_dict, kt_tuple_int, kt_tuple_bool, kt_tuple_str, kt_tuple_tuple, kt_tuple_list, kt_tuple_dict, kt_list_int, kt_list_bool, kt_list_str, kt_list_tuple, kt_list_list, kt_list_dict, Int.reduceLE, Int.reduceSub, Int.reduceToNat, Int.reduceNeg, and_self, true_and, and_true]
    · simp only [x_free0, x_freeS, free1_v, free1_no, free1_own, peek, peekL, thaw, argSls, argSl, als, nodup?, putBack, stepBack, tyOf, mutK, shOk, plainR, outs, x_seqS, List.replicate, List.append_nil, List.nil_append, List.cons_append, List.getElem?_cons_zero, List.getElem?_cons_succ, List.set_cons_zero, List.set_cons_succ, if_true, Bool.false_eq_true, if_false, reduceIte, List.contains_nil, List.contains_cons, Bool.not_false, Bool.not_true, Bool.and_true, Bool.true_and, Bool.and_false, Bool.or_false, Bool.false_or, Bool.false_and, Bool.true_or, Bool.or_true, addG_int, subI_int, eqG_int, neG_int, eqG_bl, neG_bl, cmpI_int, intG, lenG, absG, List.length_cons, sizeLine_eq, Nat.reduceLeDiff, Nat.reduceLT, Nat.zero_le, Nat.zero_add, List.length_nil, Nat.reduceAdd, beq_self_eq_true, Nat.reduceBEq, reduceCtorEq, Nat.reduceEqDiff, bd_ok, bd_bad, bd_err, x_nopS, x_badS, x_bkS, x_ctS, x_ifM, x_ifS, x_dropS, x_retS, x_retR_v, x_retR_fr, x_retR_al, x_retN, x_setS, x_setR_v, x_setR_fr, x_setR_al, x_varM, x_litM, x_liftO_v, x_liftO_fr, x_liftO_n, x_bin2, x_peek2, x_un1, x_asB, x_toB, x_andM, x_orM, x_notM, x_andV, x_orV, x_notV, x_nilA, x_consA, x_nilV, x_consV, x_tupM, x_lstM, x_callM, x_toV, x_toP, x_toPr_v, x_toPr_fr, x_toPr_al, callR_ok, x_callF, x_isaM, x_chainM, x_noPartM, x_partM, x_sliceM, x_setIx, x_mutM, x_mutK, x_par2, x_par3, x_asgS, x_setD, x_tupG, x_consG, x_nilG, x_seqN, x_enumN, x_seqV, x_enumI, x_zipI, x_rng1, x_rng2, x_sortSetM, x_rgM, kt_NoneType_int, kt_NoneType_bool, kt_NoneType_str, kt_NoneType_tuple, kt_NoneType_list, kt_NoneType_dict, kt_bool_int, kt_bool_bool, kt_bool_str, kt_bool_tuple, kt_bool_list, kt_bool_dict, kt_int_int, kt_int_bool, kt_int_str, kt_int_tuple, kt_int_list, kt_int_dict, kt_str_int, kt_str_bool, kt_str_str, kt_str_tuple, kt_str_list, kt_str_dict, kt_tuple_int, kt_tuple_bool, kt_tuple_str, kt_tuple_tuple, kt_tuple_list, kt_tuple_dict, kt_list_int, kt_list_bool, kt_list_str, kt_list_tuple, kt_list_list, kt_list_dict, Int.reduceLE, Int.reduceSub, Int.reduceToNat, Int.reduceNeg, and_self, true_and, and_true, t, tupleG]
    · simp only [wipeE, x_free0, x_freeS, free1_v, free1_no, free1_own, peek, peekL, thaw, argSls, argSl, als, nodup?, putBack, stepBack, tyOf, mutK, shOk, plainR, outs, x_seqS, List.replicate, List.append_nil, List.nil_append, List.cons_append, List.getElem?_cons_zero, List.getElem?_cons_succ, List.set_cons_zero, List.set_cons_succ, if_true, Bool.false_eq_true, if_false, reduceIte, List.contains_nil, List.contains_cons, Bool.not_false, Bool.not_true, Bool.and_true, Bool.true_and, Bool.and_false, Bool.or_false, Bool.false_or, Bool.false_and, Bool.true_or, Bool.or_true, addG_int, subI_int, eqG_int, neG_int, eqG_bl, neG_bl, cmpI_int, intG, lenG, absG, List.length_cons, sizeLine_eq, Nat.reduceLeDiff, Nat.reduceLT, Nat.zero_le, Nat.zero_add, List.length_nil, Nat.reduceAdd, beq_self_eq_true, Nat.reduceBEq, reduceCtorEq, Nat.reduceEqDiff, bd_ok, bd_bad, bd_err, x_nopS, x_badS, x_bkS, x_ctS, x_ifM, x_ifS, x_dropS, x_retS, x_retR_v, x_retR_fr, x_retR_al, x_retN, x_setS, x_setR_v, x_setR_fr, x_setR_al, x_varM, x_litM, x_liftO_v, x_liftO_fr, x_liftO_n, x_bin2, x_peek2, x_un1, x_asB, x_toB, x_andM, x_orM, x_notM, x_andV, x_orV, x_notV, x_nilA, x_consA, x_nilV, x_consV, x_tupM, x_lstM, x_callM, x_toV, x_toP, x_toPr_v, x_toPr_fr, x_toPr_al, callR_ok, x_callF, x_isaM, x_chainM, x_noPartM, x_partM, x_sliceM, x_setIx, x_mutM, x_mutK, x_par2, x_par3, x_asgS, x_setD, x_tupG, x_consG, x_nilG, x_seqN, x_enumN, x_seqV, x_enumI, x_zipI, x_rng1, x_rng2, x_sortSetM, x_rgM, kt_NoneType_int, kt_NoneType_bool, kt_NoneType_str, kt_NoneType_tuple, kt_NoneType_list, kt_NoneType_dict, kt_bool_int, kt_bool_bool, kt_bool_str, kt_bool_tuple, kt_bool_list, kt_bool_dict, kt_int_int, kt_int_bool, kt_int_str, kt_int_tuple, kt_int_list, kt_int_dict, kt_str_int, kt_str_bool, kt_str_str, kt_str_tuple, kt_str_list, kt_str_dict, kt_tuple_int, kt_tuple_bool, kt_tuple_str, kt_tuple_tuple, kt_tuple_list, kt_tuple_dict, kt_list_int, kt_list_bool, kt_list_str, kt_list_tuple, kt_list_list, kt_list_dict, Int.reduceLE, Int.reduceSub, Int.reduceToNat, Int.reduceNeg, and_self, true_and, and_true]
abbrev mkD (s0 s1 s2 : Sl) (cs : List Cs) (rows : List Row) (s5 s6 s7 : Sl) : En := [s0, s1, s2, .mu .own (.lst (cs.map encC)), .mu .lck (.lst (rows.map fun r => .tup (intL r))), s5, s6, s7, .no, .no]
abbrev src2D : M Src := rng2 (bin2 addG (varM 5) (litM (.int 1))) (callM lenG (consA (varM 4) nilA))
abbrev b2D : S := ifS (toB (bin2 eqG (bin2 ixG (varM 4) (varM 7)) (varM 6))) (retS (tupM (consV (toV (litM (.str "two"))) (consV (toV (bin2 ixG (varM 3) (varM 5))) (consV (toV (bin2 ixG (varM 3) (varM 7))) nilV))))) nopS
section
variable {s0 s1 s2 : Sl} {cs : List Cs} {rows : List Row} {i : Nat}
theorem rowAtD {j : Nat} (hj : j < rows.length) : ixG (.lst (rows.map fun r => D.tup (intL r))) (.int j) = some (.v (.tup (intL rows[j]))) := ixG_lst (by rw [List.getElem?_map, List.getElem?_eq_getElem hj]; rfl)
theorem stepD1 {s5 s6 s7 : Sl} {c : D} (f5 : free1 s5 = true) (f6 : free1 s6 = true) : tupG 2 (consG (setD 5) (consG (setD 6) nilG)) (.tup [.int (i : Nat), c]) (mkD s0 s1 s2 cs rows s5 s6 s7) = some (mkD s0 s1 s2 cs rows (.v (.int i)) (.v c) s7) := by simp only [x_free0, x_freeS, free1_v, free1_no, free1_own, peek, peekL, thaw, argSls, argSl, als, nodup?, putBack, stepBack, tyOf, mutK, shOk, plainR, outs, x_seqS, List.replicate, List.append_nil, List.nil_append, List.cons_append, List.getElem?_cons_zero, List.getElem?_cons_succ, List.set_cons_zero, List.set_cons_succ, if_true, Bool.false_eq_true, if_false, reduceIte, List.contains_nil, List.contains_cons, Bool.not_false, Bool.not_true, Bool.and_true, Bool.true_and, Bool.and_false, Bool.or_false, Bool.false_or, Bool.false_and, Bool.true_or, Bool.or_true, addG_int, subI_int, eqG_int, neG_int, eqG_bl, neG_bl, cmpI_int, intG, lenG, absG, List.length_cons, sizeLine_eq, Nat.reduceLeDiff, Nat.reduceLT, Nat.zero_le, Nat.zero_add, List.length_nil, Nat.reduceAdd, beq_self_eq_true, Nat.reduceBEq, reduceCtorEq, Nat.reduceEqDiff, bd_ok, bd_bad, bd_err, x_nopS, x_badS, x_bkS, x_ctS, x_ifM, x_ifS, x_dropS, x_retS, x_retR_v, x_retR_fr, x_retR_al, x_retN, x_setS, x_setR_v, x_setR_fr, x_setR_al, x_varM, x_litM, x_liftO_v, x_liftO_fr, x_liftO_n, x_bin2, x_peek2, x_un1, x_asB, x_toB, x_andM, x_orM, x_notM, x_andV, x_orV, x_notV, x_nilA, x_consA, x_nilV, x_consV, x_tupM, x_lstM, x_callM, x_toV, x_toP, x_toPr_v, x_toPr_fr, x_toPr_al, callR_ok, x_callF, x_isaM, x_chainM, x_noPartM, x_partM, x_sliceM, x_setIx, x_mutM, x_mutK, x_par2, x_par3, x_asgS, x_setD, x_tupG, x_consG, x_nilG, x_seqN, x_enumN, x_seqV, x_enumI, x_zipI, x_rng1, x_rng2, x_sortSetM, x_rgM, kt_NoneType_int, kt_NoneType_bool, kt_NoneType_str, kt_NoneType_tuple, kt_NoneType_list, kt_NoneType_dict, kt_bool_int, kt_bool_bool, kt_bool_str, kt_bool_tuple, kt_bool_list, kt_bool_dict, kt_int_int, kt_int_bool, kt_int_str, kt_int_tuple, kt_int_list, kt_int_dict, kt_str_int, kt_str_bool, kt_str_str, kt_str_tuple, kt_str_list, kt_str_dict, kt_tuple_int, kt_tuple_bool, kt_tuple_str, kt_tuple_tuple, kt_tuple_list, kt_tuple_dict, kt_list_int, kt_list_bool, kt_list_str, kt_list_tuple, kt_list_list, kt_list_dict, Int.reduceLE, Int.reduceSub, Int.reduceToNat, Int.reduceNeg, and_self, true_and, and_true, f5, f6]
theorem stepD2 {t6 s7 : Sl} (hb : rows.length ≤ 100) (hi : i < rows.length) : src2D (mkD s0 s1 s2 cs rows (.v (.int i)) t6 s7) = .ok (rangeL ((i : Int) + 1) (rows.length - (i + 1)), none) (mkD s0 s1 s2 cs rows (.v (.int i)) t6 s7) := by
  have t : (((rows.length : Nat) : Int) - ((i : Int) + 1)).toNat = rows.length - (i + 1) := by omega
  have u : (-8388608 ≤ (i : Int) + 1 ∧ (i : Int) + 1 ≤ 8388608) ∧ -8388608 ≤ ((rows.length : Nat) : Int) ∧ ((rows.length : Nat) : Int) ≤ 8388608 := by omega
  have q : bin2 addG (varM 5) (litM (.int 1)) (mkD s0 s1 s2 cs rows (.v (.int i)) t6 s7) = .ok (.v (.int ((i : Int) + 1))) (mkD s0 s1 s2 cs rows (.v (.int i)) t6 s7) := by simp only [x_free0, x_freeS, free1_v, free1_no, free1_own, peek, peekL, thaw, argSls, argSl, als, nodup?, putBack, stepBack, tyOf, mutK, shOk, plainR, outs, x_seqS, List.replicate, List.append_nil, List.nil_append, List.cons_append, List.getElem?_cons_zero, List.getElem?_cons_succ, List.set_cons_zero, List.set_cons_succ, if_true, Bool.false_eq_true, if_false, reduceIte, List.contains_nil, List.contains_cons, Bool.not_false, Bool.not_true, Bool.and_true, Bool.true_and, Bool.and_false, Bool.or_false, Bool.false_or, Bool.false_and, Bool.true_or, Bool.or_true, addG_int, subI_int, eqG_int, neG_int, eqG_bl, neG_bl, cmpI_int, intG, lenG, absG, List.length_cons, sizeLine_eq, Nat.reduceLeDiff, Nat.reduceLT, Nat.zero_le, Nat.zero_add, List.length_nil, Nat.reduceAdd, beq_self_eq_true, Nat.reduceBEq, reduceCtorEq, Nat.reduceEqDiff, bd_ok, bd_bad, bd_err, x_nopS, x_badS, x_bkS, x_ctS, x_ifM, x_ifS, x_dropS, x_retS, x_retR_v, x_retR_fr, x_retR_al, x_retN, x_setS, x_setR_v, x_setR_fr, x_setR_al, x_varM, x_litM, x_liftO_v, x_liftO_fr, x_liftO_n, x_bin2, x_peek2, x_un1, x_asB, x_toB, x_andM, x_orM, x_notM, x_andV, x_orV, x_notV, x_nilA, x_consA, x_nilV, x_consV, x_tupM, x_lstM, x_callM, x_toV, x_toP, x_toPr_v, x_toPr_fr, x_toPr_al, callR_ok, x_callF, x_isaM, x_chainM, x_noPartM, x_partM, x_sliceM, x_setIx, x_mutM, x_mutK, x_par2, x_par3, x_asgS, x_setD, x_tupG, x_consG, x_nilG, x_seqN, x_enumN, x_seqV, x_enumI, x_zipI, x_rng1, x_rng2, x_sortSetM, x_rgM, kt_NoneType_int, kt_NoneType_bool, kt_NoneType_str, kt_NoneType_tuple, kt_NoneType_list, kt_NoneType_dict, kt_bool_int, kt_bool_bool, kt_bool_str, kt_bool_tuple, kt_bool_list, kt_bool_dict, kt_int_int, kt_int_bool, kt_int_str, kt_int_tuple, kt_int_list, kt_int_dict, kt_str_int, kt_str_bool, kt_str_str, kt_str_tuple, kt_str_list, kt_str_dict, kt_tuple_int, kt_tuple_bool, kt_tuple_str, kt_tuple_tuple, kt_tuple_list, kt_tuple_dict, kt_list_int, kt_list_bool, kt_list_str, kt_list_tuple, kt_list_list, kt_list_dict, Int.reduceLE, Int.reduceSub, Int.reduceToNat, Int.reduceNeg, and_self, true_and, and_true]
  have q2 : callM lenG (consA (varM 4) nilA) (mkD s0 s1 s2 cs rows (.v (.int i)) t6 s7) = .ok (.v (.int (rows.length : Nat))) (mkD s0 s1 s2 cs rows (.v (.int i)) t6 s7) := by simp only [x_free0, x_freeS, free1_v, free1_no, free1_own, peek, peekL, thaw, argSls, argSl, als, nodup?, putBack, stepBack, tyOf, mutK, shOk, plainR, outs, x_seqS, List.replicate, List.append_nil, List.nil_append, List.cons_append, List.getElem?_cons_zero, List.getElem?_cons_succ, List.set_cons_zero, List.set_cons_succ, if_true, Bool.false_eq_true, if_false, reduceIte, List.contains_nil, List.contains_cons, Bool.not_false, Bool.not_true, Bool.and_true, Bool.true_and, Bool.and_false, Bool.or_false, Bool.false_or, Bool.false_and, Bool.true_or, Bool.or_true, addG_int, subI_int, eqG_int, neG_int, eqG_bl, neG_bl, cmpI_int, intG, lenG, absG, List.length_cons, sizeLine_eq, Nat.reduceLeDiff, Nat.reduceLT, Nat.zero_le, Nat.zero_add, List.length_nil, Nat.reduceAdd, beq_self_eq_true, Nat.reduceBEq, reduceCtorEq, Nat.reduceEqDiff, bd_ok, bd_bad, bd_err, x_nopS, x_badS, x_bkS, x_ctS, x_ifM, x_ifS, x_dropS, x_retS, x_retR_v, x_retR_fr, x_retR_al, x_retN, x_setS, x_setR_v, x_setR_fr, x_setR_al, x_varM, x_litM, x_liftO_v, x_liftO_fr, x_liftO_n, x_bin2, x_peek2, x_un1, x_asB, x_toB, x_andM, x_orM, x_notM, x_andV, x_orV, x_notV, x_nilA, x_consA, x_nilV, x_consV, x_tupM, x_lstM, x_callM, x_toV, x_toP, x_toPr_v, x_toPr_fr, x_toPr_al, callR_ok, x_callF, x_isaM, x_chainM, x_noPartM, x_partM, x_sliceM, x_setIx, x_mutM, x_mutK, x_par2, x_par3, x_asgS, x_setD, x_tupG, x_consG, x_nilG, x_seqN, x_enumN, x_seqV, x_enumI, x_zipI, x_rng1, x_rng2, x_sortSetM, x_rgM, kt_NoneType_int, kt_NoneType_bool, kt_NoneType_str, kt_NoneType_tuple, kt_NoneType_list, kt_NoneType_dict, kt_bool_int, kt_bool_bool, kt_bool_str, kt_bool_tuple, kt_bool_list, kt_bool_dict, kt_int_int, kt_int_bool, kt_int_str, kt_int_tuple, kt_int_list, kt_int_dict, kt_str_int, kt_str_bool, kt_str_str, kt_str_tuple, kt_str_list, kt_str_dict, kt_tuple_int, kt_tuple_bool, kt_tuple_str, kt_tuple_tuple, kt_tuple_list, kt_tuple_dict, kt_list_int, kt_list_bool, kt_list_str, kt_list_tuple, kt_list_list, kt_list_dict, Int.reduceLE, Int.reduceSub, Int.reduceToNat, Int.reduceNeg, and_self, true_and, and_true, List.length_map]
  unfold src2D
  rw [x_rng2, q, bd_ok, q2, bd_ok]
  simp only [peek]
  rw [if_pos u, t]
theorem stepD3 {t5 t6 t7 : Sl} {j : Nat} (f7 : free1 t7 = true) : setD 7 (.int j) (mkD s0 s1 s2 cs rows t5 t6 t7) = some (mkD s0 s1 s2 cs rows t5 t6 (.v (.int j))) := by simp only [x_free0, x_freeS, free1_v, free1_no, free1_own, peek, peekL, thaw, argSls, argSl, als, nodup?, putBack, stepBack, tyOf, mutK, shOk, plainR, outs, x_seqS, List.replicate, List.append_nil, List.nil_append, List.cons_append, List.getElem?_cons_zero, List.getElem?_cons_succ, List.set_cons_zero, List.set_cons_succ, if_true, Bool.false_eq_true, if_false, reduceIte, List.contains_nil, List.contains_cons, Bool.not_false, Bool.not_true, Bool.and_true, Bool.true_and, Bool.and_false, Bool.or_false, Bool.false_or, Bool.false_and, Bool.true_or, Bool.or_true, addG_int, subI_int, eqG_int, neG_int, eqG_bl, neG_bl, cmpI_int, intG, lenG, absG, List.length_cons, sizeLine_eq, Nat.reduceLeDiff, Nat.reduceLT, Nat.zero_le, Nat.zero_add, List.length_nil, Nat.reduceAdd, beq_self_eq_true, Nat.reduceBEq, reduceCtorEq, Nat.reduceEqDiff, bd_ok, bd_bad, bd_err, x_nopS, x_badS, x_bkS, x_ctS, x_ifM, x_ifS, x_dropS, x_retS, x_retR_v, x_retR_fr, x_retR_al, x_retN, x_setS, x_setR_v, x_setR_fr, x_setR_al, x_varM, x_litM, x_liftO_v, x_liftO_fr, x_liftO_n, x_bin2, x_peek2, x_un1, x_asB, x_toB, x_andM, x_orM, x_notM, x_andV, x_orV, x_notV, x_nilA, x_consA, x_nilV, x_consV, x_tupM, x_lstM, x_callM, x_toV, x_toP, x_toPr_v, x_toPr_fr, x_toPr_al, callR_ok, x_callF, x_isaM, x_chainM, x_noPartM, x_partM, x_sliceM, x_setIx, x_mutM, x_mutK, x_par2, x_par3, x_asgS, x_setD, x_tupG, x_consG, x_nilG, x_seqN, x_enumN, x_seqV, x_enumI, x_zipI, x_rng1, x_rng2, x_sortSetM, x_rgM, kt_NoneType_int, kt_NoneType_bool, kt_NoneType_str, kt_NoneType_tuple, kt_NoneType_list, kt_NoneType_dict, kt_bool_int, kt_bool_bool, kt_bool_str, kt_bool_tuple, kt_bool_list, kt_bool_dict, kt_int_int, kt_int_bool, kt_int_str, kt_int_tuple, kt_int_list, kt_int_dict, kt_str_int, kt_str_bool, kt_str_str, kt_str_tuple, kt_str_list, kt_str_dict, kt_tuple_int, kt_tuple_bool, kt_tuple_str, kt_tuple_tuple, kt_tuple_list, kt_tuple_dict, kt_list_int, kt_list_bool, kt_list_str, kt_list_tuple, kt_list_list, kt_list_dict, Int.reduceLE, Int.reduceSub, Int.reduceToNat, Int.reduceNeg, and_self, true_and, and_true, f7]
theorem stepD4 {j : Nat} (hi : i < rows.length) (hj : j < rows.length) (ne : rows[i]? ≠ rows[j]?) : b2D (mkD s0 s1 s2 cs rows (.v (.int i)) (.v (.tup (intL rows[i]))) (.v (.int j))) = .ok .nx (mkD s0 s1 s2 cs rows (.v (.int i)) (.v (.tup (intL rows[i]))) (.v (.int j))) := by
  have q : (rows[j] == rows[i]) = false := beq_eq_false_iff_ne.mpr fun z => ne (by rw [List.getElem?_eq_getElem hi, List.getElem?_eq_getElem hj, z])
  simp only [x_free0, x_freeS, free1_v, free1_no, free1_own, peek, peekL, thaw, argSls, argSl, als, nodup?, putBack, stepBack, tyOf, mutK, shOk, plainR, outs, x_seqS, List.replicate, List.append_nil, List.nil_append, List.cons_append, List.getElem?_cons_zero, List.getElem?_cons_succ, List.set_cons_zero, List.set_cons_succ, if_true, Bool.false_eq_true, if_false, reduceIte, List.contains_nil, List.contains_cons, Bool.not_false, Bool.not_true, Bool.and_true, Bool.true_and, Bool.and_false, Bool.or_false, Bool.false_or, Bool.false_and, Bool.true_or, Bool.or_true, addG_int, subI_int, eqG_int, neG_int, eqG_bl, neG_bl, cmpI_int, intG, lenG, absG, List.length_cons, sizeLine_eq, Nat.reduceLeDiff, Nat.reduceLT, Nat.zero_le, Nat.zero_add, List.length_nil, Nat.reduceAdd, beq_self_eq_true, Nat.reduceBEq, reduceCtorEq, Nat.reduceEqDiff, bd_ok, bd_bad, bd_err, x_nopS, x_badS, x_bkS, x_ctS, x_ifM, x_ifS, x_dropS, x_retS, x_retR_v, x_retR_fr, x_retR_al, x_retN, x_setS, x_setR_v, x_setR_fr, x_setR_al, x_varM, x_litM, x_liftO_v, x_liftO_fr, x_liftO_n, x_bin2, x_peek2, x_un1, x_asB, x_toB, x_andM, x_orM, x_notM, x_andV, x_orV, x_notV, x_nilA, x_consA, x_nilV, x_consV, x_tupM, x_lstM, x_callM, x_toV, x_toP, x_toPr_v, x_toPr_fr, x_toPr_al, callR_ok, x_callF, x_isaM, x_chainM, x_noPartM, x_partM, x_sliceM, x_setIx, x_mutM, x_mutK, x_par2, x_par3, x_asgS, x_setD, x_tupG, x_consG, x_nilG, x_seqN, x_enumN, x_seqV, x_enumI, x_zipI, x_rng1, x_rng2, x_sortSetM, x_rgM, kt_NoneType_int, kt_NoneType_bool, kt_NoneType_str, kt_NoneType_tuple, kt_NoneType_list, kt_NoneType_dict, kt_bool_int, kt_bool_bool, kt_bool_str, kt_bool_tuple, kt_bool_list, kt_bool_dict, kt_int_int, kt_int_bool, kt_int_str, kt_int_tuple, kt_int_list, kt_int_dict, kt_str_int, kt_str_bool, kt_str_str, kt_str_tuple, kt_str_list, kt_str_dict, kt_tuple_int, kt_tuple_bool, kt_tuple_str, kt_tuple_tuple, kt_tuple_list, kt_tuple_dict, kt_list_int, kt_list_bool, kt_list_str, kt_list_tuple, kt_list_list, kt_list_dict, Int.reduceLE, Int.reduceSub, Int.reduceToNat, Int.reduceNeg, and_self, true_and, and_true, rowAtD hj, eqG_tints, q]
theorem stepD5 {a b : Cs} {j : Nat} (hi : i < rows.length) (hj : j < rows.length) (ee : rows[i]? = rows[j]?) (ha : cs[i]? = some a) (hb : cs[j]? = some b) : b2D (mkD s0 s1 s2 cs rows (.v (.int i)) (.v (.tup (intL rows[i]))) (.v (.int j))) = .ok (.rt (.v (.tup [.str "two", encC a, encC b]))) (mkD s0 s1 s2 cs rows (.v (.int i)) (.v (.tup (intL rows[i]))) (.v (.int j))) := by
  have q : (rows[j] == rows[i]) = true := by
    rw [List.getElem?_eq_getElem hi, List.getElem?_eq_getElem hj] at ee
    rw [beq_iff_eq]
    exact (Option.some.inj ee).symm
  have ci : ixG (.lst (cs.map encC)) (.int i) = some (.v (encC a)) := ixG_lst (by rw [List.getElem?_map, ha]; rfl)
  have cj : ixG (.lst (cs.map encC)) (.int j) = some (.v (encC b)) := ixG_lst (by rw [List.getElem?_map, hb]; rfl)
  simp only [x_free0, x_freeS, free1_v, free1_no, free1_own, peek, peekL, thaw, argSls, argSl, als, nodup?, putBack, stepBack, tyOf, mutK, shOk, plainR, outs, x_seqS, List.replicate, List.append_nil, List.nil_append, List.cons_append, List.getElem?_cons_zero, List.getElem?_cons_succ, List.set_cons_zero, List.set_cons_succ, if_true, Bool.false_eq_true, if_false, reduceIte, List.contains_nil, List.contains_cons, Bool.not_false, Bool.not_true, Bool.and_true, Bool.true_and, Bool.and_false, Bool.or_false, Bool.false_or, Bool.false_and, Bool.true_or, Bool.or_true, addG_int, subI_int, eqG_int, neG_int, eqG_bl, neG_bl, cmpI_int, intG, lenG, absG, List.length_cons, sizeLine_eq, Nat.reduceLeDiff, Nat.reduceLT, Nat.zero_le, Nat.zero_add, List.length_nil, Nat.reduceAdd, beq_self_eq_true, Nat.reduceBEq, reduceCtorEq, Nat.reduceEqDiff, bd_ok, bd_bad, bd_err, x_nopS, x_badS, x_bkS, x_ctS, x_ifM, x_ifS, x_dropS, x_retS, x_retR_v, x_retR_fr, x_retR_al, x_retN, x_setS, x_setR_v, x_setR_fr, x_setR_al, x_varM, x_litM, x_liftO_v, x_liftO_fr, x_liftO_n, x_bin2, x_peek2, x_un1, x_asB, x_toB, x_andM, x_orM, x_notM, x_andV, x_orV, x_notV, x_nilA, x_consA, x_nilV, x_consV, x_tupM, x_lstM, x_callM, x_toV, x_toP, x_toPr_v, x_toPr_fr, x_toPr_al, callR_ok, x_callF, x_isaM, x_chainM, x_noPartM, x_partM, x_sliceM, x_setIx, x_mutM, x_mutK, x_par2, x_par3, x_asgS, x_setD, x_tupG, x_consG, x_nilG, x_seqN, x_enumN, x_seqV, x_enumI, x_zipI, x_rng1, x_rng2, x_sortSetM, x_rgM, kt_NoneType_int, kt_NoneType_bool, kt_NoneType_str, kt_NoneType_tuple, kt_NoneType_list, kt_NoneType_dict, kt_bool_int, kt_bool_bool, kt_bool_str, kt_bool_tuple, kt_bool_list, kt_bool_dict, kt_int_int, kt_int_bool, kt_int_str, kt_int_tuple, kt_int_list, kt_int_dict, kt_str_int, kt_str_bool, kt_str_str, kt_str_tuple, kt_str_list, kt_str_dict, kt_tuple_int, kt_tuple_bool, kt_tuple_str, kt_tuple_tuple, kt_tuple_list, kt_tuple_dict, kt_list_int, kt_list_bool, kt_list_str, kt_list_tuple, kt_list_list, kt_list_dict, Int.reduceLE, Int.reduceSub, Int.reduceToNat, Int.reduceNeg, and_self, true_and, and_true, rowAtD hj, eqG_tints, q, ci, cj]
theorem loopD (hl : cs.length = rows.length) (hb : rows.length ≤ 100) : (∃ s5 s6 s7, forL (tupG 2 (consG (setD 5) (consG (setD 6) nilG))) (forS src2D (setD 7) b2D) (enumL (rows.map fun r => .tup (intL r))) (mkD s0 s1 s2 cs rows .no .no .no) = .ok .nx (mkD s0 s1 s2 cs rows s5 s6 s7) ∧ NoPair rows) ∨
      ∃ r s5 s6 s7, forL (tupG 2 (consG (setD 5) (consG (setD 6) nilG))) (forS src2D (setD 7) b2D) (enumL (rows.map fun r => .tup (intL r))) (mkD s0 s1 s2 cs rows .no .no .no) = .ok (.rt (.v (.tup r))) (mkD s0 s1 s2 cs rows s5 s6 s7) ∧ Res rows cs r := by
  have hen : enumL (rows.map fun r => D.tup (intL r)) = (List.range rows.length).map fun i : Nat => .tup [.int (i : Nat), (rows.map fun r => D.tup (intL r)).getD i .non] := by rw [enumL_range, List.length_map]
  rw [hen]
  refine pairs_loop (mk := mkD s0 s1 s2 cs rows) (item := fun i : Nat => .tup [.int (i : Nat), (rows.map fun r => D.tup (intL r)).getD i .non]) hl fun i s5 s6 s7 hi f5 f6 => ?_
  have ci : (rows.map fun r => D.tup (intL r)).getD i .non = .tup (intL rows[i]) := by rw [List.getD_eq_getElem?_getD, List.getElem?_map, List.getElem?_eq_getElem hi]; rfl
  refine ⟨.v (.int i), .v (.tup (intL rows[i])), ?_, rfl, rfl, stepD2 hb hi, fun j t7 h1 h2 f7 => ⟨.v (.int j), stepD3 f7, rfl, fun ne => stepD4 hi h2 ne, fun ee a b ha hb2 => stepD5 hi h2 ee ha hb2⟩⟩
  simp only [ci]
  exact stepD1 f5 f6
end
theorem due_ok {n : Nat} {k : Kd} {ws : List Wg} (h2 : n ≤ 12) : ∃ r, F__law_due [.v (.int n), .v (.str k.str), .v (.tup (ws.map encW))] = .ok (.v (.tup r)) [.v (.int n), .v (.str k.str), .v (.tup (ws.map encW))] ∧ Res ((casesL n k).map (rowOf ws)) (casesL n k) r := by
  have a4 := lcases_ok k h2
  have cl := cases_len (n := n) k
  have rl := lrows_lc (ws := ws) (cs := casesL n k) (s0 := .v (.int n)) (s1 := .v (.str k.str))
  obtain ⟨cs, hcs⟩ : ∃ cs, cs = casesL n k := ⟨_, rfl⟩
  rw [← hcs] at a4 cl rl ⊢
  obtain ⟨rows, hrows⟩ : ∃ rows, rows = cs.map (rowOf ws) := ⟨_, rfl⟩
  have hlen : rows.length = cs.length := by rw [hrows, List.length_map]
  rw [← hrows]
  have hrr : (cs.map fun c => D.tup (intL (rowOf ws c))) = rows.map fun r => .tup (intL r) := by rw [hrows, List.map_map]; rfl
  rw [hrr] at rl
  have loop := loopD (s0 := .v (.int n)) (s1 := .v (.str k.str)) (s2 := .v (.tup (ws.map encW))) (cs := cs) (rows := rows) hlen.symm (by omega)
  unfold F__law_due fnD b__law_due
  rcases loop with ⟨s5, s6, s7, e, hn⟩ | ⟨r, s5, s6, s7, e, hr⟩
  · refine ⟨[.str "told"], ?_, .inl ⟨hn, rfl⟩⟩
    have ws := withSrc_some (en := [.v (.int n), .v (.str k.str), .v (.tup (ws.map encW)), .mu .own (.lst (cs.map encC)), .mu .own (.lst (rows.map fun r => .tup (intL r))), .no, .no, .no, .no, .no]) (i := 4) (kk := .own) (d := .lst (rows.map fun r => .tup (intL r))) (K := forL (tupG 2 (consG (setD 5) (consG (setD 6) nilG))) (forS src2D (setD 7) b2D)) rfl e
    simp only [x_free0, x_freeS, free1_v, free1_no, free1_own, peek, peekL, thaw, argSls, argSl, als, nodup?, putBack, stepBack, tyOf, mutK, shOk, plainR, outs, x_seqS, List.replicate, List.append_nil, List.nil_append, List.cons_append, List.getElem?_cons_zero, List.getElem?_cons_succ, List.set_cons_zero, List.set_cons_succ, if_true, Bool.false_eq_true, if_false, reduceIte, List.contains_nil, List.contains_cons, Bool.not_false, Bool.not_true, Bool.and_true, Bool.true_and, Bool.and_false, Bool.or_false, Bool.false_or, Bool.false_and, Bool.true_or, Bool.or_true, addG_int, subI_int, eqG_int, neG_int, eqG_bl, neG_bl, cmpI_int, intG, lenG, absG, List.length_cons, sizeLine_eq, Nat.reduceLeDiff, Nat.reduceLT, Nat.zero_le, Nat.zero_add, List.length_nil, Nat.reduceAdd, beq_self_eq_true, Nat.reduceBEq, reduceCtorEq, Nat.reduceEqDiff, bd_ok, bd_bad, bd_err, x_nopS, x_badS, x_bkS, x_ctS, x_ifM, x_ifS, x_dropS, x_retS, x_retR_v, x_retR_fr, x_retR_al, x_retN, x_setS, x_setR_v, x_setR_fr, x_setR_al, x_varM, x_litM, x_liftO_v, x_liftO_fr, x_liftO_n, x_bin2, x_peek2, x_un1, x_asB, x_toB, x_andM, x_orM, x_notM, x_andV, x_orV, x_notV, x_nilA, x_consA, x_nilV, x_consV, x_tupM, x_lstM, x_callM, x_toV, x_toP, x_toPr_v, x_toPr_fr, x_toPr_al, callR_ok, x_callF, x_isaM, x_chainM, x_noPartM, x_partM, x_sliceM, x_setIx, x_mutM, x_mutK, x_par2, x_par3, x_asgS, x_setD, x_tupG, x_consG, x_nilG, x_seqN, x_enumN, x_seqV, x_enumI, x_zipI, x_rng1, x_rng2, x_sortSetM, x_rgM, kt_NoneType_int, kt_NoneType_bool, kt_NoneType_str, kt_NoneType_tuple, kt_NoneType_list, kt_NoneType_dict, kt_bool_int, kt_bool_bool, kt_bool_str, kt_bool_tuple, kt_bool_list, kt_bool_dict, kt_int_int, kt_int_bool, kt_int_str, kt_int_tuple, kt_int_list, kt_int_dict, kt_str_int, kt_str_bool, kt_str_str, kt_str_tuple, kt_str_list, kt_str_dict, kt_tuple_int, kt_tuple_bool, kt_tuple_str, kt_tuple_tuple, kt_tuple_list, kt_tuple_dict, kt_list_int, kt_list_bool, kt_list_str, kt_list_tuple, kt_list_list, kt_list_dict, Int.reduceLE, Int.reduceSub, Int.reduceToNat, Int.reduceNeg, and_self, true_and, and_true, a4, rl, x_forS, ws]
  · refine ⟨r, ?_, hr⟩
    have ws := withSrc_some (en := [.v (.int n), .v (.str k.str), .v (.tup (ws.map encW)), .mu .own (.lst (cs.map encC)), .mu .own (.lst (rows.map fun r => .tup (intL r))), .no, .no, .no, .no, .no]) (i := 4) (kk := .own) (d := .lst (rows.map fun r => .tup (intL r))) (K := forL (tupG 2 (consG (setD 5) (consG (setD 6) nilG))) (forS src2D (setD 7) b2D)) rfl e
    simp only [x_free0, x_freeS, free1_v, free1_no, free1_own, peek, peekL, thaw, argSls, argSl, als, nodup?, putBack, stepBack, tyOf, mutK, shOk, plainR, outs, x_seqS, List.replicate, List.append_nil, List.nil_append, List.cons_append, List.getElem?_cons_zero, List.getElem?_cons_succ, List.set_cons_zero, List.set_cons_succ, if_true, Bool.false_eq_true, if_false, reduceIte, List.contains_nil, List.contains_cons, Bool.not_false, Bool.not_true, Bool.and_true, Bool.true_and, Bool.and_false, Bool.or_false, Bool.false_or, Bool.false_and, Bool.true_or, Bool.or_true, addG_int, subI_int, eqG_int, neG_int, eqG_bl, neG_bl, cmpI_int, intG, lenG, absG, List.length_cons, sizeLine_eq, Nat.reduceLeDiff, Nat.reduceLT, Nat.zero_le, Nat.zero_add, List.length_nil, Nat.reduceAdd, beq_self_eq_true, Nat.reduceBEq, reduceCtorEq, Nat.reduceEqDiff, bd_ok, bd_bad, bd_err, x_nopS, x_badS, x_bkS, x_ctS, x_ifM, x_ifS, x_dropS, x_retS, x_retR_v, x_retR_fr, x_retR_al, x_retN, x_setS, x_setR_v, x_setR_fr, x_setR_al, x_varM, x_litM, x_liftO_v, x_liftO_fr, x_liftO_n, x_bin2, x_peek2, x_un1, x_asB, x_toB, x_andM, x_orM, x_notM, x_andV, x_orV, x_notV, x_nilA, x_consA, x_nilV, x_consV, x_tupM, x_lstM, x_callM, x_toV, x_toP, x_toPr_v, x_toPr_fr, x_toPr_al, callR_ok, x_callF, x_isaM, x_chainM, x_noPartM, x_partM, x_sliceM, x_setIx, x_mutM, x_mutK, x_par2, x_par3, x_asgS, x_setD, x_tupG, x_consG, x_nilG, x_seqN, x_enumN, x_seqV, x_enumI, x_zipI, x_rng1, x_rng2, x_sortSetM, x_rgM, kt_NoneType_int, kt_NoneType_bool, kt_NoneType_str, kt_NoneType_tuple, kt_NoneType_list, kt_NoneType_dict, kt_bool_int, kt_bool_bool, kt_bool_str, kt_bool_tuple, kt_bool_list, kt_bool_dict, kt_int_int, kt_int_bool, kt_int_str, kt_int_tuple, kt_int_list, kt_int_dict, kt_str_int, kt_str_bool, kt_str_str, kt_str_tuple, kt_str_list, kt_str_dict, kt_tuple_int, kt_tuple_bool, kt_tuple_str, kt_tuple_tuple, kt_tuple_list, kt_tuple_dict, kt_list_int, kt_list_bool, kt_list_str, kt_list_tuple, kt_list_list, kt_list_dict, Int.reduceLE, Int.reduceSub, Int.reduceToNat, Int.reduceNeg, and_self, true_and, and_true, a4, rl, x_forS, ws]
end K59
set_option linter.all false
set_option maxRecDepth 100000
set_option maxHeartbeats 4000000
namespace K59
open PySem PySem.Spec PyProof.Rows L2 Fw
theorem cut_pre {l : List Int} {k : Nat} (h : k ≤ l.length) : Fw.cutD (intL l) none (some ((k : Nat) : Int)) = intL (l.take k) := by
  unfold Fw.cutD intL
  rw [show HT.sIx (l.map D.int).length 0 none = 0 from rfl, HT.sIx_nat, List.length_map, Nat.min_eq_left h, List.drop_zero, Nat.sub_zero, List.map_take]
theorem cut_mid {l : List Int} {k j : Nat} (h : k ≤ j) (hj : j ≤ l.length) : Fw.cutD (intL l) (some ((k : Nat) : Int)) (some ((j : Nat) : Int)) = intL ((l.drop k).take (j - k)) := by
  unfold Fw.cutD intL
  rw [HT.sIx_nat, HT.sIx_nat, List.length_map, Nat.min_eq_left (show k ≤ l.length by omega), Nat.min_eq_left hj, List.map_take, List.map_drop]
theorem rg_lt (n : Nat) : (rg n).Pairwise (· < ·) := by
  unfold rg
  rw [List.pairwise_map]
  exact List.pairwise_lt_range.imp fun h => by omega
theorem rg_nodup (n : Nat) : (rg n).Nodup := (rg_lt n).imp fun h => by omega
theorem weighing_ok {m : Nat} {hd : D} {n : Nat} (h : HOk m hd) (hm : m < 2 ^ 28) (h2 : 2 ≤ n) (h12 : n ≤ 12) : ∃ w hd', F__law_weighing [.mu .ref hd, .v (.int n)] = .ok (.v (encW w)) [.mu .ref hd', .v (.int n)] ∧ WOk n w ∧ HOk (m + 20) hd' := by
  obtain ⟨ds', hd1, pm, e1, k1⟩ := mixed_ok (ds := intL (rg n)) h (by simp [intL, rg_len]; omega) (by simp [intL, rg_len]; omega)
  obtain ⟨cl, rfl⟩ := int_back (l := rg n) (r := ds') fun x hx => pm.mem_iff.mp hx
  have pc := int_perm pm
  have ln : cl.length = n := by rw [pc.length_eq, rg_len]
  have nd : cl.Nodup := pc.nodup_iff.mpr (rg_nodup n)
  have lim : ((n : Int) / 2) = ((n / 2 : Nat) : Int) := by omega
  obtain ⟨q, hd2, e2, q1, q2, k2⟩ := draw_ok (lim := ((n / 2 : Nat) : Int)) k1 (by simp [intL, rg_len]; omega) (by omega) (small_len (by omega))
  obtain ⟨u, rfl⟩ : ∃ u : Nat, q = u := ⟨q.toNat, by omega⟩
  have fd : fdivI (.int n) (.int 2) = some (.v (.int ((n / 2 : Nat) : Int))) := by rw [fdivI_pos (by omega) (by decide), lim]
  obtain ⟨k, hk⟩ : ∃ k, k = 1 + u := ⟨_, rfl⟩
  have he : (1 + (u : Int)) = ((k : Nat) : Int) := by omega
  have he2 : mulG (.int 2) (.int ((k : Nat) : Int)) = some (.v (.int ((2 * k : Nat) : Int))) := by rw [mulG_small (by omega) (by omega) (by omega) (by omega)]; congr 3
  have c1 := cut_pre (l := cl) (k := k) (by omega)
  have c2 := cut_mid (l := cl) (k := k) (j := 2 * k) (by omega) (by omega)
  obtain ⟨l1, s1, p1, w1⟩ := sort_ints (cl.take k)
  obtain ⟨l2, s2, p2, w2⟩ := sort_ints ((cl.drop k).take (2 * k - k))
  have rgm : rgM1 (fun ds => .fr (.lst ds)) (varM 1) [.mu .ref hd, .v (.int n), .no, .no] = .ok (.fr (.lst (intL (rg n)))) [.mu .ref hd, .v (.int n), .no, .no] := by
    have t : 0 ≤ (n : Int) ∧ (n : Int) ≤ 16777216 ∧ (n : Int).toNat ≤ sizeLine := ⟨by omega, by omega, by rw [sizeLine_eq]; omega⟩
    unfold rgM1 M.bnd
    simp only [x_varM, List.getElem?_cons_succ, List.getElem?_cons_zero, peek]
    rw [if_pos t, rangeL_rg]
  have sub1 : ∀ x ∈ l1, x ∈ cl.take k := fun x hx => p1.mem_iff.mp hx
  have sub2 : ∀ x ∈ l2, x ∈ cl.drop k := fun x hx => List.mem_of_mem_take (p2.mem_iff.mp hx)
  have inr : ∀ x ∈ cl, 0 ≤ x ∧ x ≤ (n : Int) - 1 := fun x hx => by have := rg_mem.mp (pc.mem_iff.mp hx); omega
  have nd2 : (cl.take k ++ cl.drop k).Nodup := by rw [List.take_append_drop]; exact nd
  obtain ⟨n1, n2, n3⟩ := List.nodup_append.mp nd2
  have hle : k + k ≤ n := by omega
  refine ⟨(l1, l2), hd2, ?_, ⟨fun x hx => inr x (List.mem_of_mem_take (sub1 x hx)), fun x hx => inr x (List.mem_of_mem_drop (sub2 x hx)), lt_of_le_nodup _ w1 (p1.nodup_iff.mpr n1), lt_of_le_nodup _ w2 (p2.nodup_iff.mpr (n2.sublist (List.take_sublist _ _))), ?_, ?_, ?_, fun x hx hy => n3 x (sub1 x hx) x (sub2 x hy) rfl⟩, k2.mono (by simp [intL, rg_len]; omega)⟩
  · unfold F__law_weighing fnD b__law_weighing
    simp only [x_free0, x_freeS, free1_v, free1_no, free1_own, peek, peekL, thaw, argSls, argSl, als, nodup?, putBack, stepBack, tyOf, mutK, shOk, plainR, outs, x_seqS, List.replicate, List.append_nil, List.nil_append, List.cons_append, List.getElem?_cons_zero, List.getElem?_cons_succ, List.set_cons_zero, List.set_cons_succ, if_true, Bool.false_eq_true, if_false, reduceIte, List.contains_nil, List.contains_cons, Bool.not_false, Bool.not_true, Bool.and_true, Bool.true_and, Bool.and_false, Bool.or_false, Bool.false_or, Bool.false_and, Bool.true_or, Bool.or_true, addG_int, subI_int, eqG_int, neG_int, eqG_bl, neG_bl, cmpI_int, intG, lenG, absG, List.length_cons, sizeLine_eq, Nat.reduceLeDiff, Nat.reduceLT, Nat.zero_le, Nat.zero_add, List.length_nil, Nat.reduceAdd, beq_self_eq_true, Nat.reduceBEq, reduceCtorEq, Nat.reduceEqDiff, bd_ok, bd_bad, bd_err, x_nopS, x_badS, x_bkS, x_ctS, x_ifM, x_ifS, x_dropS, x_retS, x_retR_v, x_retR_fr, x_retR_al, x_retN, x_setS, x_setR_v, x_setR_fr, x_setR_al, x_varM, x_litM, x_liftO_v, x_liftO_fr, x_liftO_n, x_bin2, x_peek2, x_un1, x_asB, x_toB, x_andM, x_orM, x_notM, x_andV, x_orV, x_notV, x_nilA, x_consA, x_nilV, x_consV, x_tupM, x_lstM, x_callM, x_toV, x_toP, x_toPr_v, x_toPr_fr, x_toPr_al, callR_ok, x_callF, x_isaM, x_chainM, x_noPartM, x_partM, x_sliceM, x_setIx, x_mutM, x_mutK, x_par2, x_par3, x_asgS, x_setD, x_tupG, x_consG, x_nilG, x_seqN, x_enumN, x_seqV, x_enumI, x_zipI, x_rng1, x_rng2, x_sortSetM, x_rgM, kt_NoneType_int, kt_NoneType_bool, kt_NoneType_str, kt_NoneType_tuple, kt_NoneType_list, kt_NoneType_dict, kt_bool_int, kt_bool_bool, kt_bool_str, kt_bool_tuple, kt_bool_list, kt_bool_dict, kt_int_int, kt_int_bool, kt_int_str, kt_int_tuple, kt_int_list, kt_int_dict, kt_str_int, kt_str_bool, kt_str_str, kt_str_tuple, kt_str_list, kt_str_dict, kt_tuple_int, kt_tuple_bool, kt_tuple_str, kt_tuple_tuple, kt_tuple_list, kt_tuple_dict, kt_list_int, kt_list_bool, kt_list_str, kt_list_tuple, kt_list_list, kt_list_dict, Int.reduceLE, Int.reduceSub, Int.reduceToNat, Int.reduceNeg, and_self, true_and, and_true, rgm, e1, e2, fd, he, he2, c1, c2, s1, s2, tupleG, encW, BEq.rfl]
  · show 0 < l1.length
    rw [p1.length_eq, List.length_take]; omega
  · show 0 < l2.length
    rw [p2.length_eq, List.length_take, List.length_drop]; omega
  · show l1.length = l2.length
    rw [p1.length_eq, p2.length_eq, List.length_take, List.length_take, List.length_drop]; omega
theorem while_go {c : M Bool} {f : S} {n : Nat} {en en1 en2 : En} (h1 : c en = .ok true en1) (h2 : f en1 = .ok .nx en2) : whileS c f (n + 1) en = whileS c f n en2 := by
  unfold whileS M.bnd
  simp only [h1, h2, if_true]
  cases n <;> rfl
theorem while_end {c : M Bool} {f : S} {n : Nat} {en en1 : En} (h1 : c en = .ok false en1) : whileS c f (n + 1) en = .ok .nx en1 := by
  unfold whileS M.bnd
  simp only [h1, Bool.false_eq_true, if_false]
  rfl
theorem three_lc {n : Nat} {p r : Int} {s1 s3 s4 : Sl} (h2 : n ≤ 12) (hp : 0 < p) (hp2 : p < 1000) : lcM (rng1 (varM 0)) [5] (setD 5) (toB (bin2 eqG (bin2 modI (callM intG (consA (bin2 fdivI (varM 5) (varM 2)) nilA)) (litM (.int 3))) (litM (.int r)))) (toV (varM 5)) [.v (.int n), s1, .v (.int p), s3, s4, .no] =
    .ok (.fr (.lst (intL ((rg n).filter fun c => (c / p) % 3 == r)))) [.v (.int n), s1, .v (.int p), s3, s4, .no] := by
  refine lcM_none' (ds := intL (rg n)) (rng_src h2) ?_
  refine lcL_filtX D.int D.int (fun c => (c / p) % 3 == r) fun c _ => ?_
  have f : fdivI (.int c) (.int p) = some (.v (.int (c / p))) := fdivI_pos hp (by have := bits64 (i := p) (by omega) (by omega); omega)
  have g : modI (.int (c / p)) (.int 3) = some (.v (.int (c / p % 3))) := modI_pos (by omega)
  refine ⟨[.v (.int n), s1, .v (.int p), s3, s4, .v (.int c)], [.v (.int n), s1, .v (.int p), s3, s4, .v (.int c)], ?_, ?_, fun _ => ⟨[.v (.int n), s1, .v (.int p), s3, s4, .v (.int c)], ?_, rfl⟩, fun _ => rfl⟩
  · simp only [x_free0, x_freeS, free1_v, free1_no, free1_own, peek, peekL, thaw, argSls, argSl, als, nodup?, putBack, stepBack, tyOf, mutK, shOk, plainR, outs, x_seqS, List.replicate, List.append_nil, List.nil_append, List.cons_append, List.getElem?_cons_zero, List.getElem?_cons_succ, List.set_cons_zero, List.set_cons_succ, if_true, Bool.false_eq_true, if_false, reduceIte, List.contains_nil, List.contains_cons, Bool.not_false, Bool.not_true, Bool.and_true, Bool.true_and, Bool.and_false, Bool.or_false, Bool.false_or, Bool.false_and, Bool.true_or, Bool.or_true, addG_int, subI_int, eqG_int, neG_int, eqG_bl, neG_bl, cmpI_int, intG, lenG, absG, List.length_cons, sizeLine_eq, Nat.reduceLeDiff, Nat.reduceLT, Nat.zero_le, Nat.zero_add, List.length_nil, Nat.reduceAdd, beq_self_eq_true, Nat.reduceBEq, reduceCtorEq, Nat.reduceEqDiff, bd_ok, bd_bad, bd_err, x_nopS, x_badS, x_bkS, x_ctS, x_ifM, x_ifS, x_dropS, x_retS, x_retR_v, x_retR_fr, x_retR_al, x_retN, x_setS, x_setR_v, x_setR_fr, x_setR_al, x_varM, x_litM, x_liftO_v, x_liftO_fr, x_liftO_n, x_bin2, x_peek2, x_un1, x_asB, x_toB, x_andM, x_orM, x_notM, x_andV, x_orV, x_notV, x_nilA, x_consA, x_nilV, x_consV, x_tupM, x_lstM, x_callM, x_toV, x_toP, x_toPr_v, x_toPr_fr, x_toPr_al, callR_ok, x_callF, x_isaM, x_chainM, x_noPartM, x_partM, x_sliceM, x_setIx, x_mutM, x_mutK, x_par2, x_par3, x_asgS, x_setD, x_tupG, x_consG, x_nilG, x_seqN, x_enumN, x_seqV, x_enumI, x_zipI, x_rng1, x_rng2, x_sortSetM, x_rgM, kt_NoneType_int, kt_NoneType_bool, kt_NoneType_str, kt_NoneType_tuple, kt_NoneType_list, kt_NoneType_dict, kt_bool_int, kt_bool_bool, kt_bool_str, kt_bool_tuple, kt_bool_list, kt_bool_dict, kt_int_int, kt_int_bool, kt_int_str, kt_int_tuple, kt_int_list, kt_int_dict, kt_str_int, kt_str_bool, kt_str_str, kt_str_tuple, kt_str_list, kt_str_dict, kt_tuple_int, kt_tuple_bool, kt_tuple_str, kt_tuple_tuple, kt_tuple_list, kt_tuple_dict, kt_list_int, kt_list_bool, kt_list_str, kt_list_tuple, kt_list_list, kt_list_dict, Int.reduceLE, Int.reduceSub, Int.reduceToNat, Int.reduceNeg, and_self, true_and, and_true, wipeE]
  · simp only [x_free0, x_freeS, free1_v, free1_no, free1_own, peek, peekL, thaw, argSls, argSl, als, nodup?, putBack, stepBack, tyOf, mutK, shOk, plainR, outs, x_seqS, List.replicate, List.append_nil, List.nil_append, List.cons_append, List.getElem?_cons_zero, List.getElem?_cons_succ, List.set_cons_zero, List.set_cons_succ, if_true, Bool.false_eq_true, if_false, reduceIte, List.contains_nil, List.contains_cons, Bool.not_false, Bool.not_true, Bool.and_true, Bool.true_and, Bool.and_false, Bool.or_false, Bool.false_or, Bool.false_and, Bool.true_or, Bool.or_true, addG_int, subI_int, eqG_int, neG_int, eqG_bl, neG_bl, cmpI_int, intG, lenG, absG, List.length_cons, sizeLine_eq, Nat.reduceLeDiff, Nat.reduceLT, Nat.zero_le, Nat.zero_add, List.length_nil, Nat.reduceAdd, beq_self_eq_true, Nat.reduceBEq, reduceCtorEq, Nat.reduceEqDiff, bd_ok, bd_bad, bd_err, x_nopS, x_badS, x_bkS, x_ctS, x_ifM, x_ifS, x_dropS, x_retS, x_retR_v, x_retR_fr, x_retR_al, x_retN, x_setS, x_setR_v, x_setR_fr, x_setR_al, x_varM, x_litM, x_liftO_v, x_liftO_fr, x_liftO_n, x_bin2, x_peek2, x_un1, x_asB, x_toB, x_andM, x_orM, x_notM, x_andV, x_orV, x_notV, x_nilA, x_consA, x_nilV, x_consV, x_tupM, x_lstM, x_callM, x_toV, x_toP, x_toPr_v, x_toPr_fr, x_toPr_al, callR_ok, x_callF, x_isaM, x_chainM, x_noPartM, x_partM, x_sliceM, x_setIx, x_mutM, x_mutK, x_par2, x_par3, x_asgS, x_setD, x_tupG, x_consG, x_nilG, x_seqN, x_enumN, x_seqV, x_enumI, x_zipI, x_rng1, x_rng2, x_sortSetM, x_rgM, kt_NoneType_int, kt_NoneType_bool, kt_NoneType_str, kt_NoneType_tuple, kt_NoneType_list, kt_NoneType_dict, kt_bool_int, kt_bool_bool, kt_bool_str, kt_bool_tuple, kt_bool_list, kt_bool_dict, kt_int_int, kt_int_bool, kt_int_str, kt_int_tuple, kt_int_list, kt_int_dict, kt_str_int, kt_str_bool, kt_str_str, kt_str_tuple, kt_str_list, kt_str_dict, kt_tuple_int, kt_tuple_bool, kt_tuple_str, kt_tuple_tuple, kt_tuple_list, kt_tuple_dict, kt_list_int, kt_list_bool, kt_list_str, kt_list_tuple, kt_list_list, kt_list_dict, Int.reduceLE, Int.reduceSub, Int.reduceToNat, Int.reduceNeg, and_self, true_and, and_true, f, g]
  · simp only [x_free0, x_freeS, free1_v, free1_no, free1_own, peek, peekL, thaw, argSls, argSl, als, nodup?, putBack, stepBack, tyOf, mutK, shOk, plainR, outs, x_seqS, List.replicate, List.append_nil, List.nil_append, List.cons_append, List.getElem?_cons_zero, List.getElem?_cons_succ, List.set_cons_zero, List.set_cons_succ, if_true, Bool.false_eq_true, if_false, reduceIte, List.contains_nil, List.contains_cons, Bool.not_false, Bool.not_true, Bool.and_true, Bool.true_and, Bool.and_false, Bool.or_false, Bool.false_or, Bool.false_and, Bool.true_or, Bool.or_true, addG_int, subI_int, eqG_int, neG_int, eqG_bl, neG_bl, cmpI_int, intG, lenG, absG, List.length_cons, sizeLine_eq, Nat.reduceLeDiff, Nat.reduceLT, Nat.zero_le, Nat.zero_add, List.length_nil, Nat.reduceAdd, beq_self_eq_true, Nat.reduceBEq, reduceCtorEq, Nat.reduceEqDiff, bd_ok, bd_bad, bd_err, x_nopS, x_badS, x_bkS, x_ctS, x_ifM, x_ifS, x_dropS, x_retS, x_retR_v, x_retR_fr, x_retR_al, x_retN, x_setS, x_setR_v, x_setR_fr, x_setR_al, x_varM, x_litM, x_liftO_v, x_liftO_fr, x_liftO_n, x_bin2, x_peek2, x_un1, x_asB, x_toB, x_andM, x_orM, x_notM, x_andV, x_orV, x_notV, x_nilA, x_consA, x_nilV, x_consV, x_tupM, x_lstM, x_callM, x_toV, x_toP, x_toPr_v, x_toPr_fr, x_toPr_al, callR_ok, x_callF, x_isaM, x_chainM, x_noPartM, x_partM, x_sliceM, x_setIx, x_mutM, x_mutK, x_par2, x_par3, x_asgS, x_setD, x_tupG, x_consG, x_nilG, x_seqN, x_enumN, x_seqV, x_enumI, x_zipI, x_rng1, x_rng2, x_sortSetM, x_rgM, kt_NoneType_int, kt_NoneType_bool, kt_NoneType_str, kt_NoneType_tuple, kt_NoneType_list, kt_NoneType_dict, kt_bool_int, kt_bool_bool, kt_bool_str, kt_bool_tuple, kt_bool_list, kt_bool_dict, kt_int_int, kt_int_bool, kt_int_str, kt_int_tuple, kt_int_list, kt_int_dict, kt_str_int, kt_str_bool, kt_str_str, kt_str_tuple, kt_str_list, kt_str_dict, kt_tuple_int, kt_tuple_bool, kt_tuple_str, kt_tuple_tuple, kt_tuple_list, kt_tuple_dict, kt_list_int, kt_list_bool, kt_list_str, kt_list_tuple, kt_list_list, kt_list_dict, Int.reduceLE, Int.reduceSub, Int.reduceToNat, Int.reduceNeg, and_self, true_and, and_true]
abbrev cT : M Bool := toB (bin2 (cmpI fun i j => decide (i < j)) (varM 2) (varM 0))
abbrev bT : S := (seqS (setS 3 (callM tupleG (consA (lcM (rng1 (varM 0)) [5] (setD 5) (toB (bin2 eqG (bin2 modI (callM intG (consA (bin2 fdivI (varM 5) (varM 2)) nilA)) (litM (.int 3))) (litM (.int 0)))) (toV (varM 5))) nilA)))
  (seqS (setS 4 (callM tupleG (consA (lcM (rng1 (varM 0)) [5] (setD 5) (toB (bin2 eqG (bin2 modI (callM intG (consA (bin2 fdivI (varM 5) (varM 2)) nilA)) (litM (.int 3))) (litM (.int 1)))) (toV (varM 5))) nilA)))
  (seqS (dropS (mutM "list" 1 appendF (consV (toV (tupM (consV (toV (varM 3)) (consV (toV (varM 4)) nilV)))) nilV)))
  (setS 2 (bin2 mulG (litM (.int 3)) (varM 2))))))
theorem bT_ok {n : Nat} {p : Int} {X : List D} {s3 s4 : Sl} (h2 : n ≤ 12) (hp : 0 < p) (hp2 : p < 1000) (hX : X.length < 100) (f3 : free1 s3 = true) (f4 : free1 s4 = true) : ∃ s3' s4', bT [.v (.int n), .mu .own (.lst X), .v (.int p), s3, s4, .no] =
    .ok .nx [.v (.int n), .mu .own (.lst (X ++ [encW ((rg n).filter (fun c => (c / p) % 3 == 0), (rg n).filter fun c => (c / p) % 3 == 1)])), .v (.int (3 * p)), s3', s4', .no] ∧ free1 s3' = true ∧ free1 s4' = true := by
  have l0 := three_lc (r := 0) (s1 := .mu .own (.lst X)) (s3 := s3) (s4 := s4) h2 hp hp2
  have l1 := three_lc (r := 1) (s1 := .mu .own (.lst X)) (s3 := .v (.tup (intL ((rg n).filter fun c => (c / p) % 3 == 0)))) (s4 := s4) h2 hp hp2
  have ap : ∀ d, appendF (.lst X) [d] = some (.lst (X ++ [d]), .non) := fun d => app_ok (by omega)
  have mu : mulG (.int 3) (.int p) = some (.v (.int (3 * p))) := mulG_small (by omega) (by omega) (by omega) (by omega)
  refine ⟨.v (.tup (intL ((rg n).filter fun c => (c / p) % 3 == 0))), .v (.tup (intL ((rg n).filter fun c => (c / p) % 3 == 1))), ?_, rfl, rfl⟩
  simp only [x_free0, x_freeS, free1_v, free1_no, free1_own, peek, peekL, thaw, argSls, argSl, als, nodup?, putBack, stepBack, tyOf, mutK, shOk, plainR, outs, x_seqS, List.replicate, List.append_nil, List.nil_append, List.cons_append, List.getElem?_cons_zero, List.getElem?_cons_succ, List.set_cons_zero, List.set_cons_succ, if_true, Bool.false_eq_true, if_false, reduceIte, List.contains_nil, List.contains_cons, Bool.not_false, Bool.not_true, Bool.and_true, Bool.true_and, Bool.and_false, Bool.or_false, Bool.false_or, Bool.false_and, Bool.true_or, Bool.or_true, addG_int, subI_int, eqG_int, neG_int, eqG_bl, neG_bl, cmpI_int, intG, lenG, absG, List.length_cons, sizeLine_eq, Nat.reduceLeDiff, Nat.reduceLT, Nat.zero_le, Nat.zero_add, List.length_nil, Nat.reduceAdd, beq_self_eq_true, Nat.reduceBEq, reduceCtorEq, Nat.reduceEqDiff, bd_ok, bd_bad, bd_err, x_nopS, x_badS, x_bkS, x_ctS, x_ifM, x_ifS, x_dropS, x_retS, x_retR_v, x_retR_fr, x_retR_al, x_retN, x_setS, x_setR_v, x_setR_fr, x_setR_al, x_varM, x_litM, x_liftO_v, x_liftO_fr, x_liftO_n, x_bin2, x_peek2, x_un1, x_asB, x_toB, x_andM, x_orM, x_notM, x_andV, x_orV, x_notV, x_nilA, x_consA, x_nilV, x_consV, x_tupM, x_lstM, x_callM, x_toV, x_toP, x_toPr_v, x_toPr_fr, x_toPr_al, callR_ok, x_callF, x_isaM, x_chainM, x_noPartM, x_partM, x_sliceM, x_setIx, x_mutM, x_mutK, x_par2, x_par3, x_asgS, x_setD, x_tupG, x_consG, x_nilG, x_seqN, x_enumN, x_seqV, x_enumI, x_zipI, x_rng1, x_rng2, x_sortSetM, x_rgM, kt_NoneType_int, kt_NoneType_bool, kt_NoneType_str, kt_NoneType_tuple, kt_NoneType_list, kt_NoneType_dict, kt_bool_int, kt_bool_bool, kt_bool_str, kt_bool_tuple, kt_bool_list, kt_bool_dict, kt_int_int, kt_int_bool, kt_int_str, kt_int_tuple, kt_int_list, kt_int_dict, kt_str_int, kt_str_bool, kt_str_str, kt_str_tuple, kt_str_list, kt_str_dict, kt_tuple_int, kt_tuple_bool, kt_tuple_str, kt_tuple_tuple, kt_tuple_list, kt_tuple_dict, kt_list_int, kt_list_bool, kt_list_str, kt_list_tuple, kt_list_list, kt_list_dict, Int.reduceLE, Int.reduceSub, Int.reduceToNat, Int.reduceNeg, and_self, true_and, and_true, l0, l1, tupleG, f3, f4, ap, mu, encW, BEq.rfl]
theorem fuel_succ : ∃ m, fuelW = m + 1 + 1 + 1 := ⟨fuelW - 3, by have := fuelW_big; omega⟩
theorem threes_3 : F__law_threes [.v (.int 3)] = .ok (.v (.tup ([([0], [1])].map encW))) [.v (.int 3)] := by
  obtain ⟨m, hm⟩ := fuel_succ
  obtain ⟨s3, s4, b1, f3, f4⟩ := bT_ok (n := 3) (p := 1) (X := []) (s3 := .no) (s4 := .no) (by omega) (by omega) (by omega) (by simp) rfl rfl
  have b1 : bT [.v (.int 3), .mu .own (.lst []), .v (.int 1), .no, .no, .no] = .ok .nx [.v (.int 3), .mu .own (.lst [encW ([0], [1])]), .v (.int 3), s3, s4, .no] := b1
  have w : whileS cT bT fuelW [.v (.int 3), .mu .own (.lst []), .v (.int 1), .no, .no, .no] = .ok .nx [.v (.int 3), .mu .own (.lst [encW ([0], [1])]), .v (.int 3), s3, s4, .no] := by
    rw [hm, while_go (en1 := [.v (.int 3), .mu .own (.lst []), .v (.int 1), .no, .no, .no]) (by simp only [x_free0, x_freeS, free1_v, free1_no, free1_own, peek, peekL, thaw, argSls, argSl, als, nodup?, putBack, stepBack, tyOf, mutK, shOk, plainR, outs, x_seqS, List.replicate, List.append_nil, List.nil_append, List.cons_append, List.getElem?_cons_zero, List.getElem?_cons_succ, List.set_cons_zero, List.set_cons_succ, if_true, Bool.false_eq_true, if_false, reduceIte, List.contains_nil, List.contains_cons, Bool.not_false, Bool.not_true, Bool.and_true, Bool.true_and, Bool.and_false, Bool.or_false, Bool.false_or, Bool.false_and, Bool.true_or, Bool.or_true, addG_int, subI_int, eqG_int, neG_int, eqG_bl, neG_bl, cmpI_int, intG, lenG, absG, List.length_cons, sizeLine_eq, Nat.reduceLeDiff, Nat.reduceLT, Nat.zero_le, Nat.zero_add, List.length_nil, Nat.reduceAdd, beq_self_eq_true, Nat.reduceBEq, reduceCtorEq, Nat.reduceEqDiff, bd_ok, bd_bad, bd_err, x_nopS, x_badS, x_bkS, x_ctS, x_ifM, x_ifS, x_dropS, x_retS, x_retR_v, x_retR_fr, x_retR_al, x_retN, x_setS, x_setR_v, x_setR_fr, x_setR_al, x_varM, x_litM, x_liftO_v, x_liftO_fr, x_liftO_n, x_bin2, x_peek2, x_un1, x_asB, x_toB, x_andM, x_orM, x_notM, x_andV, x_orV, x_notV, x_nilA, x_consA, x_nilV, x_consV, x_tupM, x_lstM, x_callM, x_toV, x_toP, x_toPr_v, x_toPr_fr, x_toPr_al, callR_ok, x_callF, x_isaM, x_chainM, x_noPartM, x_partM, x_sliceM, x_setIx, x_mutM, x_mutK, x_par2, x_par3, x_asgS, x_setD, x_tupG, x_consG, x_nilG, x_seqN, x_enumN, x_seqV, x_enumI, x_zipI, x_rng1, x_rng2, x_sortSetM, x_rgM, kt_NoneType_int, kt_NoneType_bool, kt_NoneType_str, kt_NoneType_tuple, kt_NoneType_list, kt_NoneType_dict, kt_bool_int, kt_bool_bool, kt_bool_str, kt_bool_tuple, kt_bool_list, kt_bool_dict, kt_int_int, kt_int_bool, kt_int_str, kt_int_tuple, kt_int_list, kt_int_dict, kt_str_int, kt_str_bool, kt_str_str, kt_str_tuple, kt_str_list, kt_str_dict, kt_tuple_int, kt_tuple_bool, kt_tuple_str, kt_tuple_tuple, kt_tuple_list, kt_tuple_dict, kt_list_int, kt_list_bool, kt_list_str, kt_list_tuple, kt_list_list, kt_list_dict, Int.reduceLE, Int.reduceSub, Int.reduceToNat, Int.reduceNeg, and_self, true_and, and_true]; rfl) b1]
    exact while_end (by simp only [x_free0, x_freeS, free1_v, free1_no, free1_own, peek, peekL, thaw, argSls, argSl, als, nodup?, putBack, stepBack, tyOf, mutK, shOk, plainR, outs, x_seqS, List.replicate, List.append_nil, List.nil_append, List.cons_append, List.getElem?_cons_zero, List.getElem?_cons_succ, List.set_cons_zero, List.set_cons_succ, if_true, Bool.false_eq_true, if_false, reduceIte, List.contains_nil, List.contains_cons, Bool.not_false, Bool.not_true, Bool.and_true, Bool.true_and, Bool.and_false, Bool.or_false, Bool.false_or, Bool.false_and, Bool.true_or, Bool.or_true, addG_int, subI_int, eqG_int, neG_int, eqG_bl, neG_bl, cmpI_int, intG, lenG, absG, List.length_cons, sizeLine_eq, Nat.reduceLeDiff, Nat.reduceLT, Nat.zero_le, Nat.zero_add, List.length_nil, Nat.reduceAdd, beq_self_eq_true, Nat.reduceBEq, reduceCtorEq, Nat.reduceEqDiff, bd_ok, bd_bad, bd_err, x_nopS, x_badS, x_bkS, x_ctS, x_ifM, x_ifS, x_dropS, x_retS, x_retR_v, x_retR_fr, x_retR_al, x_retN, x_setS, x_setR_v, x_setR_fr, x_setR_al, x_varM, x_litM, x_liftO_v, x_liftO_fr, x_liftO_n, x_bin2, x_peek2, x_un1, x_asB, x_toB, x_andM, x_orM, x_notM, x_andV, x_orV, x_notV, x_nilA, x_consA, x_nilV, x_consV, x_tupM, x_lstM, x_callM, x_toV, x_toP, x_toPr_v, x_toPr_fr, x_toPr_al, callR_ok, x_callF, x_isaM, x_chainM, x_noPartM, x_partM, x_sliceM, x_setIx, x_mutM, x_mutK, x_par2, x_par3, x_asgS, x_setD, x_tupG, x_consG, x_nilG, x_seqN, x_enumN, x_seqV, x_enumI, x_zipI, x_rng1, x_rng2, x_sortSetM, x_rgM, kt_NoneType_int, kt_NoneType_bool, kt_NoneType_str, kt_NoneType_tuple, kt_NoneType_list, kt_NoneType_dict, kt_bool_int, kt_bool_bool, kt_bool_str, kt_bool_tuple, kt_bool_list, kt_bool_dict, kt_int_int, kt_int_bool, kt_int_str, kt_int_tuple, kt_int_list, kt_int_dict, kt_str_int, kt_str_bool, kt_str_str, kt_str_tuple, kt_str_list, kt_str_dict, kt_tuple_int, kt_tuple_bool, kt_tuple_str, kt_tuple_tuple, kt_tuple_list, kt_tuple_dict, kt_list_int, kt_list_bool, kt_list_str, kt_list_tuple, kt_list_list, kt_list_dict, Int.reduceLE, Int.reduceSub, Int.reduceToNat, Int.reduceNeg, and_self, true_and, and_true]; rfl)
  unfold F__law_threes fnD b__law_threes
  simp only [x_free0, x_freeS, free1_v, free1_no, free1_own, peek, peekL, thaw, argSls, argSl, als, nodup?, putBack, stepBack, tyOf, mutK, shOk, plainR, outs, x_seqS, List.replicate, List.append_nil, List.nil_append, List.cons_append, List.getElem?_cons_zero, List.getElem?_cons_succ, List.set_cons_zero, List.set_cons_succ, if_true, Bool.false_eq_true, if_false, reduceIte, List.contains_nil, List.contains_cons, Bool.not_false, Bool.not_true, Bool.and_true, Bool.true_and, Bool.and_false, Bool.or_false, Bool.false_or, Bool.false_and, Bool.true_or, Bool.or_true, addG_int, subI_int, eqG_int, neG_int, eqG_bl, neG_bl, cmpI_int, intG, lenG, absG, List.length_cons, sizeLine_eq, Nat.reduceLeDiff, Nat.reduceLT, Nat.zero_le, Nat.zero_add, List.length_nil, Nat.reduceAdd, beq_self_eq_true, Nat.reduceBEq, reduceCtorEq, Nat.reduceEqDiff, bd_ok, bd_bad, bd_err, x_nopS, x_badS, x_bkS, x_ctS, x_ifM, x_ifS, x_dropS, x_retS, x_retR_v, x_retR_fr, x_retR_al, x_retN, x_setS, x_setR_v, x_setR_fr, x_setR_al, x_varM, x_litM, x_liftO_v, x_liftO_fr, x_liftO_n, x_bin2, x_peek2, x_un1, x_asB, x_toB, x_andM, x_orM, x_notM, x_andV, x_orV, x_notV, x_nilA, x_consA, x_nilV, x_consV, x_tupM, x_lstM, x_callM, x_toV, x_toP, x_toPr_v, x_toPr_fr, x_toPr_al, callR_ok, x_callF, x_isaM, x_chainM, x_noPartM, x_partM, x_sliceM, x_setIx, x_mutM, x_mutK, x_par2, x_par3, x_asgS, x_setD, x_tupG, x_consG, x_nilG, x_seqN, x_enumN, x_seqV, x_enumI, x_zipI, x_rng1, x_rng2, x_sortSetM, x_rgM, kt_NoneType_int, kt_NoneType_bool, kt_NoneType_str, kt_NoneType_tuple, kt_NoneType_list, kt_NoneType_dict, kt_bool_int, kt_bool_bool, kt_bool_str, kt_bool_tuple, kt_bool_list, kt_bool_dict, kt_int_int, kt_int_bool, kt_int_str, kt_int_tuple, kt_int_list, kt_int_dict, kt_str_int, kt_str_bool, kt_str_str, kt_str_tuple, kt_str_list, kt_str_dict, kt_tuple_int, kt_tuple_bool, kt_tuple_str, kt_tuple_tuple, kt_tuple_list, kt_tuple_dict, kt_list_int, kt_list_bool, kt_list_str, kt_list_tuple, kt_list_list, kt_list_dict, Int.reduceLE, Int.reduceSub, Int.reduceToNat, Int.reduceNeg, and_self, true_and, and_true, w, tupleG]
  rfl
theorem threes_9 : F__law_threes [.v (.int 9)] = .ok (.v (.tup ([([0, 3, 6], [1, 4, 7]), ([0, 1, 2], [3, 4, 5])].map encW))) [.v (.int 9)] := by
  obtain ⟨m, hm⟩ := fuel_succ
  obtain ⟨s3, s4, b1, f3, f4⟩ := bT_ok (n := 9) (p := 1) (X := []) (s3 := .no) (s4 := .no) (by omega) (by omega) (by omega) (by simp) rfl rfl
  have b1 : bT [.v (.int 9), .mu .own (.lst []), .v (.int 1), .no, .no, .no] = .ok .nx [.v (.int 9), .mu .own (.lst [encW ([0, 3, 6], [1, 4, 7])]), .v (.int 3), s3, s4, .no] := b1
  obtain ⟨t3, t4, b2, g3, g4⟩ := bT_ok (n := 9) (p := 3) (X := [encW ([0, 3, 6], [1, 4, 7])]) (s3 := s3) (s4 := s4) (by omega) (by omega) (by omega) (by simp) f3 f4
  have b2 : bT [.v (.int 9), .mu .own (.lst [encW ([0, 3, 6], [1, 4, 7])]), .v (.int 3), s3, s4, .no] = .ok .nx [.v (.int 9), .mu .own (.lst [encW ([0, 3, 6], [1, 4, 7]), encW ([0, 1, 2], [3, 4, 5])]), .v (.int 9), t3, t4, .no] := b2
  have w : whileS cT bT fuelW [.v (.int 9), .mu .own (.lst []), .v (.int 1), .no, .no, .no] = .ok .nx [.v (.int 9), .mu .own (.lst [encW ([0, 3, 6], [1, 4, 7]), encW ([0, 1, 2], [3, 4, 5])]), .v (.int 9), t3, t4, .no] := by
    rw [hm, while_go (en1 := [.v (.int 9), .mu .own (.lst []), .v (.int 1), .no, .no, .no]) (by simp only [x_free0, x_freeS, free1_v, free1_no, free1_own, peek, peekL, thaw, argSls, argSl, als, nodup?, putBack, stepBack, tyOf, mutK, shOk, plainR, outs, x_seqS, List.replicate, List.append_nil, List.nil_append, List.cons_append, List.getElem?_cons_zero, List.getElem?_cons_succ, List.set_cons_zero, List.set_cons_succ, if_true, Bool.false_eq_true, if_false, reduceIte, List.contains_nil, List.contains_cons, Bool.not_false, Bool.not_true, Bool.and_true, Bool.true_and, Bool.and_false, Bool.or_false, Bool.false_or, Bool.false_and, Bool.true_or, Bool.or_true, addG_int, subI_int, eqG_int, neG_int, eqG_bl, neG_bl, cmpI_int, intG, lenG, absG, List.length_cons, sizeLine_eq, Nat.reduceLeDiff, Nat.reduceLT, Nat.zero_le, Nat.zero_add, List.length_nil, Nat.reduceAdd, beq_self_eq_true, Nat.reduceBEq, reduceCtorEq, Nat.reduceEqDiff, bd_ok, bd_bad, bd_err, x_nopS, x_badS, x_bkS, x_ctS, x_ifM, x_ifS, x_dropS, x_retS, x_retR_v, x_retR_fr, x_retR_al, x_retN, x_setS, x_setR_v, x_setR_fr, x_setR_al, x_varM, x_litM, x_liftO_v, x_liftO_fr, x_liftO_n, x_bin2, x_peek2, x_un1, x_asB, x_toB, x_andM, x_orM, x_notM, x_andV, x_orV, x_notV, x_nilA, x_consA, x_nilV, x_consV, x_tupM, x_lstM, x_callM, x_toV, x_toP, x_toPr_v, x_toPr_fr, x_toPr_al, callR_ok, x_callF, x_isaM, x_chainM, x_noPartM, x_partM, x_sliceM, x_setIx, x_mutM, x_mutK, x_par2, x_par3, x_asgS, x_setD, x_tupG, x_consG, x_nilG, x_seqN, x_enumN, x_seqV, x_enumI, x_zipI, x_rng1, x_rng2, x_sortSetM, x_rgM, kt_NoneType_int, kt_NoneType_bool, kt_NoneType_str, kt_NoneType_tuple, kt_NoneType_list, kt_NoneType_dict, kt_bool_int, kt_bool_bool, kt_bool_str, kt_bool_tuple, kt_bool_list, kt_bool_dict, kt_int_int, kt_int_bool, kt_int_str, kt_int_tuple, kt_int_list, kt_int_dict, kt_str_int, kt_str_bool, kt_str_str, kt_str_tuple, kt_str_list, kt_str_dict, kt_tuple_int, kt_tuple_bool, kt_tuple_str, kt_tuple_tuple, kt_tuple_list, kt_tuple_dict, kt_list_int, kt_list_bool, kt_list_str, kt_list_tuple, kt_list_list, kt_list_dict, Int.reduceLE, Int.reduceSub, Int.reduceToNat, Int.reduceNeg, and_self, true_and, and_true]; rfl) b1]
    rw [while_go (en1 := [.v (.int 9), .mu .own (.lst [encW ([0, 3, 6], [1, 4, 7])]), .v (.int 3), s3, s4, .no]) (by simp only [x_free0, x_freeS, free1_v, free1_no, free1_own, peek, peekL, thaw, argSls, argSl, als, nodup?, putBack, stepBack, tyOf, mutK, shOk, plainR, outs, x_seqS, List.replicate, List.append_nil, List.nil_append, List.cons_append, List.getElem?_cons_zero, List.getElem?_cons_succ, List.set_cons_zero, List.set_cons_succ, if_true, Bool.false_eq_true, if_false, reduceIte, List.contains_nil, List.contains_cons, Bool.not_false, Bool.not_true, Bool.and_true, Bool.true_and, Bool.and_false, Bool.or_false, Bool.false_or, Bool.false_and, Bool.true_or, Bool.or_true, addG_int, subI_int, eqG_int, neG_int, eqG_bl, neG_bl, cmpI_int, intG, lenG, absG, List.length_cons, sizeLine_eq, Nat.reduceLeDiff, Nat.reduceLT, Nat.zero_le, Nat.zero_add, List.length_nil, Nat.reduceAdd, beq_self_eq_true, Nat.reduceBEq, reduceCtorEq, Nat.reduceEqDiff, bd_ok, bd_bad, bd_err, x_nopS, x_badS, x_bkS, x_ctS, x_ifM, x_ifS, x_dropS, x_retS, x_retR_v, x_retR_fr, x_retR_al, x_retN, x_setS, x_setR_v, x_setR_fr, x_setR_al, x_varM, x_litM, x_liftO_v, x_liftO_fr, x_liftO_n, x_bin2, x_peek2, x_un1, x_asB, x_toB, x_andM, x_orM, x_notM, x_andV, x_orV, x_notV, x_nilA, x_consA, x_nilV, x_consV, x_tupM, x_lstM, x_callM, x_toV, x_toP, x_toPr_v, x_toPr_fr, x_toPr_al, callR_ok, x_callF, x_isaM, x_chainM, x_noPartM, x_partM, x_sliceM, x_setIx, x_mutM, x_mutK, x_par2, x_par3, x_asgS, x_setD, x_tupG, x_consG, x_nilG, x_seqN, x_enumN, x_seqV, x_enumI, x_zipI, x_rng1, x_rng2, x_sortSetM, x_rgM, kt_NoneType_int, kt_NoneType_bool, kt_NoneType_str, kt_NoneType_tuple, kt_NoneType_list, kt_NoneType_dict, kt_bool_int, kt_bool_bool, kt_bool_str, kt_bool_tuple, kt_bool_list, kt_bool_dict, kt_int_int, kt_int_bool, kt_int_str, kt_int_tuple, kt_int_list, kt_int_dict, kt_str_int, kt_str_bool, kt_str_str, kt_str_tuple, kt_str_list, kt_str_dict, kt_tuple_int, kt_tuple_bool, kt_tuple_str, kt_tuple_tuple, kt_tuple_list, kt_tuple_dict, kt_list_int, kt_list_bool, kt_list_str, kt_list_tuple, kt_list_list, kt_list_dict, Int.reduceLE, Int.reduceSub, Int.reduceToNat, Int.reduceNeg, and_self, true_and, and_true]; rfl) b2]
    exact while_end (by simp only [x_free0, x_freeS, free1_v, free1_no, free1_own, peek, peekL, thaw, argSls, argSl, als, nodup?, putBack, stepBack, tyOf, mutK, shOk, plainR, outs, x_seqS, List.replicate, List.append_nil, List.nil_append, List.cons_append, List.getElem?_cons_zero, List.getElem?_cons_succ, List.set_cons_zero, List.set_cons_succ, if_true, Bool.false_eq_true, if_false, reduceIte, List.contains_nil, List.contains_cons, Bool.not_false, Bool.not_true, Bool.and_true, Bool.true_and, Bool.and_false, Bool.or_false, Bool.false_or, Bool.false_and, Bool.true_or, Bool.or_true, addG_int, subI_int, eqG_int, neG_int, eqG_bl, neG_bl, cmpI_int, intG, lenG, absG, List.length_cons, sizeLine_eq, Nat.reduceLeDiff, Nat.reduceLT, Nat.zero_le, Nat.zero_add, List.length_nil, Nat.reduceAdd, beq_self_eq_true, Nat.reduceBEq, reduceCtorEq, Nat.reduceEqDiff, bd_ok, bd_bad, bd_err, x_nopS, x_badS, x_bkS, x_ctS, x_ifM, x_ifS, x_dropS, x_retS, x_retR_v, x_retR_fr, x_retR_al, x_retN, x_setS, x_setR_v, x_setR_fr, x_setR_al, x_varM, x_litM, x_liftO_v, x_liftO_fr, x_liftO_n, x_bin2, x_peek2, x_un1, x_asB, x_toB, x_andM, x_orM, x_notM, x_andV, x_orV, x_notV, x_nilA, x_consA, x_nilV, x_consV, x_tupM, x_lstM, x_callM, x_toV, x_toP, x_toPr_v, x_toPr_fr, x_toPr_al, callR_ok, x_callF, x_isaM, x_chainM, x_noPartM, x_partM, x_sliceM, x_setIx, x_mutM, x_mutK, x_par2, x_par3, x_asgS, x_setD, x_tupG, x_consG, x_nilG, x_seqN, x_enumN, x_seqV, x_enumI, x_zipI, x_rng1, x_rng2, x_sortSetM, x_rgM, kt_NoneType_int, kt_NoneType_bool, kt_NoneType_str, kt_NoneType_tuple, kt_NoneType_list, kt_NoneType_dict, kt_bool_int, kt_bool_bool, kt_bool_str, kt_bool_tuple, kt_bool_list, kt_bool_dict, kt_int_int, kt_int_bool, kt_int_str, kt_int_tuple, kt_int_list, kt_int_dict, kt_str_int, kt_str_bool, kt_str_str, kt_str_tuple, kt_str_list, kt_str_dict, kt_tuple_int, kt_tuple_bool, kt_tuple_str, kt_tuple_tuple, kt_tuple_list, kt_tuple_dict, kt_list_int, kt_list_bool, kt_list_str, kt_list_tuple, kt_list_list, kt_list_dict, Int.reduceLE, Int.reduceSub, Int.reduceToNat, Int.reduceNeg, and_self, true_and, and_true]; rfl)
  unfold F__law_threes fnD b__law_threes
  simp only [x_free0, x_freeS, free1_v, free1_no, free1_own, peek, peekL, thaw, argSls, argSl, als, nodup?, putBack, stepBack, tyOf, mutK, shOk, plainR, outs, x_seqS, List.replicate, List.append_nil, List.nil_append, List.cons_append, List.getElem?_cons_zero, List.getElem?_cons_succ, List.set_cons_zero, List.set_cons_succ, if_true, Bool.false_eq_true, if_false, reduceIte, List.contains_nil, List.contains_cons, Bool.not_false, Bool.not_true, Bool.and_true, Bool.true_and, Bool.and_false, Bool.or_false, Bool.false_or, Bool.false_and, Bool.true_or, Bool.or_true, addG_int, subI_int, eqG_int, neG_int, eqG_bl, neG_bl, cmpI_int, intG, lenG, absG, List.length_cons, sizeLine_eq, Nat.reduceLeDiff, Nat.reduceLT, Nat.zero_le, Nat.zero_add, List.length_nil, Nat.reduceAdd, beq_self_eq_true, Nat.reduceBEq, reduceCtorEq, Nat.reduceEqDiff, bd_ok, bd_bad, bd_err, x_nopS, x_badS, x_bkS, x_ctS, x_ifM, x_ifS, x_dropS, x_retS, x_retR_v, x_retR_fr, x_retR_al, x_retN, x_setS, x_setR_v, x_setR_fr, x_setR_al, x_varM, x_litM, x_liftO_v, x_liftO_fr, x_liftO_n, x_bin2, x_peek2, x_un1, x_asB, x_toB, x_andM, x_orM, x_notM, x_andV, x_orV, x_notV, x_nilA, x_consA, x_nilV, x_consV, x_tupM, x_lstM, x_callM, x_toV, x_toP, x_toPr_v, x_toPr_fr, x_toPr_al, callR_ok, x_callF, x_isaM, x_chainM, x_noPartM, x_partM, x_sliceM, x_setIx, x_mutM, x_mutK, x_par2, x_par3, x_asgS, x_setD, x_tupG, x_consG, x_nilG, x_seqN, x_enumN, x_seqV, x_enumI, x_zipI, x_rng1, x_rng2, x_sortSetM, x_rgM, kt_NoneType_int, kt_NoneType_bool, kt_NoneType_str, kt_NoneType_tuple, kt_NoneType_list, kt_NoneType_dict, kt_bool_int, kt_bool_bool, kt_bool_str, kt_bool_tuple, kt_bool_list, kt_bool_dict, kt_int_int, kt_int_bool, kt_int_str, kt_int_tuple, kt_int_list, kt_int_dict, kt_str_int, kt_str_bool, kt_str_str, kt_str_tuple, kt_str_list, kt_str_dict, kt_tuple_int, kt_tuple_bool, kt_tuple_str, kt_tuple_tuple, kt_tuple_list, kt_tuple_dict, kt_list_int, kt_list_bool, kt_list_str, kt_list_tuple, kt_list_list, kt_list_dict, Int.reduceLE, Int.reduceSub, Int.reduceToNat, Int.reduceNeg, and_self, true_and, and_true, w, tupleG]
  rfl
end K59
set_option linter.all false
set_option maxRecDepth 100000
set_option maxHeartbeats 4000000
namespace K59
open PySem PySem.Spec PyProof.Rows L2 Fw
/-! ### other names for the coins -/
theorem noPair_iff {rows : List Row} : NoPair rows ↔ rows.Nodup := by
  constructor
  · intro h
    refine List.pairwise_iff_getElem.mpr fun i j hi hj hij e => ?_
    exact h i j hij hj (by rw [List.getElem?_eq_getElem hi, List.getElem?_eq_getElem hj, e])
  · intro h i k hik hk e
    have hi : i < rows.length := by omega
    rw [List.getElem?_eq_getElem hi, List.getElem?_eq_getElem hk] at e
    exact List.pairwise_iff_getElem.mp h i k hi hk hik (Option.some.inj e)
def at_ (ord : List Int) (x : Int) : Int := ord.getD x.toNat 0
noncomputable def srt (l : List Int) : List Int := Classical.choose (sort_ints l)
theorem srt_ok (l : List Int) : sortG [.lst (intL l)] = some (.fr (.lst (intL (srt l)))) ∧ (srt l).Perm l ∧ (srt l).Pairwise (· ≤ ·) := Classical.choose_spec (sort_ints l)
noncomputable def ren (ord : List Int) (w : Wg) : Wg := (srt (w.1.map (at_ ord)), srt (w.2.map (at_ ord)))
def renC (ord : List Int) : Cs → Cs
  | none => none
  | some (c, s) => some (at_ ord c, s)
section
variable {n : Nat} {ord : List Int} (hp : ord.Perm (rg n))
include hp
theorem ord_len : ord.length = n := by rw [hp.length_eq, rg_len]
theorem ord_map : (rg n).map (at_ ord) = ord := by
  have hl := ord_len hp
  apply List.ext_getElem
  · rw [List.length_map, rg_len, hl]
  · intro i h1 h2
    simp only [rg, List.getElem_map, List.getElem_range, at_, Int.toNat_natCast]
    rw [List.getD_eq_getElem?_getD, List.getElem?_eq_getElem h2]
    rfl
theorem ord_inj {x y : Int} (hx : 0 ≤ x ∧ x < n) (hy : 0 ≤ y ∧ y < n) (e : at_ ord x = at_ ord y) : x = y := by
  have hl := ord_len hp
  have nd : ord.Nodup := hp.nodup_iff.mpr (rg_nodup n)
  have gx : x.toNat < ord.length := by omega
  have gy : y.toNat < ord.length := by omega
  unfold at_ at e
  rw [List.getD_eq_getElem?_getD, List.getD_eq_getElem?_getD, List.getElem?_eq_getElem gx, List.getElem?_eq_getElem gy] at e
  simp only [Option.getD_some] at e
  by_cases h : x.toNat = y.toNat
  · omega
  · rcases Nat.lt_or_gt_of_ne h with z | z
    · exact absurd e (List.pairwise_iff_getElem.mp nd _ _ gx gy z)
    · exact absurd e.symm (List.pairwise_iff_getElem.mp nd _ _ gy gx z)
theorem ord_rg {x : Int} (hx : 0 ≤ x ∧ x < n) : 0 ≤ at_ ord x ∧ at_ ord x < n := by
  have hl := ord_len hp
  have gx : x.toNat < ord.length := by omega
  have : at_ ord x ∈ ord := by
    unfold at_
    rw [List.getD_eq_getElem?_getD, List.getElem?_eq_getElem gx]
    exact List.getElem_mem gx
  exact rg_mem.mp (hp.mem_iff.mp this)
theorem srt_strict {l : List Int} (hl : ∀ x ∈ l, 0 ≤ x ∧ x < n) (hs : l.Pairwise (· < ·)) : (srt (l.map (at_ ord))).Pairwise (· < ·) := by
  obtain ⟨_, p, q⟩ := srt_ok (l.map (at_ ord))
  refine lt_of_le_nodup _ q (p.nodup_iff.mpr ?_)
  refine List.pairwise_map.mpr ?_
  have : l.Pairwise fun a b => a ∈ l ∧ b ∈ l ∧ a < b := by
    rw [List.pairwise_iff_getElem]
    intro i j hi hj hij
    exact ⟨List.getElem_mem hi, List.getElem_mem hj, List.pairwise_iff_getElem.mp hs i j hi hj hij⟩
  refine this.imp fun {a b} ⟨ha, hb, hab⟩ e => ?_
  have := ord_inj hp (hl a ha) (hl b hb) e
  omega
theorem mem_srt {l : List Int} {x : Int} (hl : ∀ y ∈ l, 0 ≤ y ∧ y < n) (hx : 0 ≤ x ∧ x < n) : at_ ord x ∈ srt (l.map (at_ ord)) ↔ x ∈ l := by
  obtain ⟨_, p, _⟩ := srt_ok (l.map (at_ ord))
  rw [p.mem_iff, List.mem_map]
  constructor
  · rintro ⟨y, hy, e⟩
    rw [← ord_inj hp (hl y hy) hx e]
    exact hy
  · exact fun h => ⟨x, h, rfl⟩
theorem ren_ok {w : Wg} (h : WOk n w) : WOk n (ren ord w) := by
  have b1 : ∀ x ∈ w.1, 0 ≤ x ∧ x < n := fun x hx => by have := h.a1 x hx; omega
  have b2 : ∀ x ∈ w.2, 0 ≤ x ∧ x < n := fun x hx => by have := h.a2 x hx; omega
  have p1 := (srt_ok (w.1.map (at_ ord))).2.1
  have p2 := (srt_ok (w.2.map (at_ ord))).2.1
  refine ⟨fun x hx => ?_, fun x hx => ?_, srt_strict hp b1 h.s1, srt_strict hp b2 h.s2, ?_, ?_, ?_, fun x hx hy => ?_⟩
  · obtain ⟨y, hy, rfl⟩ := List.mem_map.mp (p1.mem_iff.mp hx)
    have := ord_rg hp (b1 y hy); omega
  · obtain ⟨y, hy, rfl⟩ := List.mem_map.mp (p2.mem_iff.mp hx)
    have := ord_rg hp (b2 y hy); omega
  · show 0 < (srt _).length
    rw [p1.length_eq, List.length_map]; exact h.p1
  · show 0 < (srt _).length
    rw [p2.length_eq, List.length_map]; exact h.p2
  · show (srt _).length = (srt _).length
    rw [p1.length_eq, p2.length_eq, List.length_map, List.length_map]; exact h.le
  · obtain ⟨y, hy1, rfl⟩ := List.mem_map.mp (p1.mem_iff.mp hx)
    exact h.dj y hy1 ((mem_srt hp b2 (b1 y hy1)).mp hy)
theorem tells_ren {w : Wg} (h : WOk n w) {c s : Int} (hc : 0 ≤ c ∧ c < n) : tells (ren ord w) (renC ord (some (c, s))) = tells w (some (c, s)) := by
  have b1 : ∀ x ∈ w.1, 0 ≤ x ∧ x < n := fun x hx => by have := h.a1 x hx; omega
  have b2 : ∀ x ∈ w.2, 0 ≤ x ∧ x < n := fun x hx => by have := h.a2 x hx; omega
  simp only [tells, renC, ren, mem_srt hp b1 hc, mem_srt hp b2 hc]
theorem cases_mem {k : Kd} {c s : Int} (h : some (c, s) ∈ casesL n k) : 0 ≤ c ∧ c < n := by
  cases k with
  | hv =>
    obtain ⟨x, hx, e⟩ := List.mem_map.mp h
    cases e
    exact rg_mem.mp hx
  | ei =>
    obtain ⟨x, hx, e⟩ := List.mem_flatMap.mp h
    simp only [two, List.mem_cons, List.not_mem_nil, or_false, Option.some.injEq, Prod.mk.injEq] at e
    rcases e with ⟨rfl, _⟩ | ⟨rfl, _⟩ <;> exact rg_mem.mp hx
  | on =>
    rcases List.mem_cons.mp h with h | h
    · cases h
    · obtain ⟨x, hx, e⟩ := List.mem_flatMap.mp h
      simp only [two, List.mem_cons, List.not_mem_nil, or_false, Option.some.injEq, Prod.mk.injEq] at e
      rcases e with ⟨rfl, _⟩ | ⟨rfl, _⟩ <;> exact rg_mem.mp hx
theorem flat_perm {α β : Type} {f : α → List β} {l l' : List α} (h : l.Perm l') : (l.flatMap f).Perm (l'.flatMap f) := by
  clear hp
  induction h with
  | nil => exact List.Perm.refl _
  | cons x _ ih => rw [List.flatMap_cons, List.flatMap_cons]; exact List.Perm.append_left _ ih
  | swap x y l =>
    simp only [List.flatMap_cons]
    rw [← List.append_assoc, ← List.append_assoc]
    exact List.Perm.append_right _ List.perm_append_comm
  | trans _ _ a b => exact a.trans b
theorem two_ren : ((rg n).flatMap two).map (renC ord) = ord.flatMap two := by
  have : ∀ l : List Int, (l.flatMap two).map (renC ord) = (l.map (at_ ord)).flatMap two := fun l => by
    induction l with
    | nil => rfl
    | cons x l ih => rw [List.flatMap_cons, List.map_append, ih, List.map_cons, List.flatMap_cons]; rfl
  rw [this, ord_map hp]
theorem cases_ren (k : Kd) : ((casesL n k).map (renC ord)).Perm (casesL n k) := by
  cases k with
  | hv =>
    unfold casesL
    rw [List.map_map]
    have : (rg n).map (renC ord ∘ fun c => some (c, 1)) = ((rg n).map (at_ ord)).map fun c => some (c, 1) := by rw [List.map_map]; rfl
    rw [this, ord_map hp]
    exact hp.map _
  | ei =>
    unfold casesL
    rw [two_ren hp]
    exact flat_perm hp hp
  | on =>
    unfold casesL
    rw [List.map_cons, two_ren hp]
    exact (flat_perm hp hp).cons _
theorem rows_ren {k : Kd} {ws : List Wg} (hw : ∀ w ∈ ws, WOk n w) : ((casesL n k).map (rowOf (ws.map (ren ord)))).Perm ((casesL n k).map (rowOf ws)) := by
  have e : ((casesL n k).map (renC ord)).map (rowOf (ws.map (ren ord))) = (casesL n k).map (rowOf ws) := by
    rw [List.map_map]
    refine List.map_congr_left fun c hc => ?_
    show rowOf (ws.map (ren ord)) (renC ord c) = rowOf ws c
    unfold rowOf
    rw [List.map_map]
    refine List.map_congr_left fun w hm => ?_
    cases c with
    | none => rfl
    | some q => exact tells_ren hp (hw w hm) (cases_mem hp hc)
  rw [← e]
  exact ((cases_ren hp k).map _).symm
end
theorem Res.first {rows : List Row} {cs : List Cs} {r : List D} (h : Res rows cs r) : (rows.Nodup ∧ r = [.str "told"]) ∨ ¬ rows.Nodup ∧ ∃ ci cj, rows.length = rows.length ∧ r = [.str "two", encC ci, encC cj] := by
  rcases h with ⟨h, e⟩ | ⟨i, j, ci, cj, m, _, _, e⟩
  · exact .inl ⟨noPair_iff.mp h, e⟩
  · exact .inr ⟨fun z => noPair_iff.mpr z i j m.ij m.jl m.eq, ci, cj, rfl, e⟩
theorem nodup_more {cs : List Cs} {ws : List Wg} {w : Wg} (h : (cs.map (rowOf ws)).Nodup) : (cs.map (rowOf (ws ++ [w]))).Nodup := by
  have e : cs.map (rowOf ws) = (cs.map (rowOf (ws ++ [w]))).map fun r => r.take ws.length := by
    rw [List.map_map]
    refine List.map_congr_left fun c _ => ?_
    show rowOf ws c = (rowOf (ws ++ [w]) c).take ws.length
    unfold rowOf
    rw [List.map_append, List.take_left' (by simp)]
  rw [e] at h
  exact (List.pairwise_map.mp h).imp fun {a b} hab z => hab (by rw [z])
end K59
set_option linter.all false
set_option maxRecDepth 100000
set_option maxHeartbeats 4000000
namespace K59
open PySem PySem.Spec PyProof.Rows L2 Fw
theorem neG_self {d : D} (h : d.fit deep = true) : neG d d = some (.v (.bl false)) := by
  unfold neG; rw [h, Bool.and_self, if_pos rfl, eq_self _ d h]; rfl
theorem is_self15 {d : D} (h : d.fit 15 = true) : F__law_is 16 [.v d, .v d] = .ok (.v (.bl true)) [.v d, .v d] := is_self 15 d h (by omega)
theorem encC_fit (c : Cs) : (encC c).fit 14 = true := by
  cases c with
  | none => rfl
  | some q => rfl
theorem told_fit : (D.tup [.str "told"]).fit 15 = true := by
  show ([D.str "told"] : List D).all (D.fit 14) = true
  simp only [List.all_cons, List.all_nil, Bool.and_true]
  show PyData.strOk _ = true
  decide +kernel
theorem two_fit (a b : Cs) : (D.tup [.str "two", encC a, encC b]).fit 15 = true := by
  show ([D.str "two", encC a, encC b] : List D).all (D.fit 14) = true
  simp only [List.all_cons, List.all_nil, Bool.and_true, encC_fit]
  show PyData.strOk _ = true
  decide +kernel
theorem s_two_two : eqG (.str "two") (.str "two") = some (.v (.bl true)) := by
  show (if PyData.strOk _ && PyData.strOk _ then _ else _) = _
  rw [show (PyData.strOk _ && PyData.strOk _) = true by decide +kernel, if_pos rfl]; rfl
theorem s_told_two : eqG (.str "told") (.str "two") = some (.v (.bl false)) := by
  show (if PyData.strOk _ && PyData.strOk _ then _ else _) = _
  rw [show (PyData.strOk _ && PyData.strOk _) = true by decide +kernel, if_pos rfl]; rfl
theorem s_told_told : eqG (.str "told") (.str "told") = some (.v (.bl true)) := by
  show (if PyData.strOk _ && PyData.strOk _ then _ else _) = _
  rw [show (PyData.strOk _ && PyData.strOk _) = true by decide +kernel, if_pos rfl]; rfl
theorem s_two_told : eqG (.str "two") (.str "told") = some (.v (.bl false)) := by
  show (if PyData.strOk _ && PyData.strOk _ then _ else _) = _
  rw [show (PyData.strOk _ && PyData.strOk _) = true by decide +kernel, if_pos rfl]; rfl
theorem ix1_0 (a : D) : ixG (.tup [a]) (.int 0) = some (.v a) := rfl
theorem ix3_0 (a b c : D) : ixG (.tup [a, b, c]) (.int 0) = some (.v a) := rfl
theorem ix3_1 (a b c : D) : ixG (.tup [a, b, c]) (.int 1) = some (.v b) := rfl
theorem ix3_2 (a b c : D) : ixG (.tup [a, b, c]) (.int 2) = some (.v c) := rfl
theorem addT_ok {xs ys : List D} (h : xs.length + ys.length < 100000) : addG (.tup xs) (.tup ys) = some (.v (.tup (xs ++ ys))) := by
  show orG addT (orG addL addS) _ _ = _
  unfold orG addT
  simp only
  rw [if_pos (by rw [sizeLine_eq]; omega)]
/-- a set of drawn weighings -/
theorem many_ok {m : Nat} {hd : D} {n : Nat} {k : Kd} (h : HOk m hd) (hm : m < 2 ^ 27) (h2 : 2 ≤ n) (h12 : n ≤ 12) : ∃ (ws : List Wg) (hd' : D), lcM (rng1 (callF F__law_draw (consA (varM 0) (consA (litM (.int 5)) nilA)))) [10] (setD 10) yesM (toV (callF F__law_weighing (consA (varM 0) (consA (varM 1) nilA)))) [.mu .ref hd, .v (.int n), .v (.str k.str), .no, .no, .no, .no, .no, .no, .no, .no, .no] =
    .ok (.fr (.lst (ws.map encW))) [.mu .ref hd', .v (.int n), .v (.str k.str), .no, .no, .no, .no, .no, .no, .no, .no, .no] ∧ (∀ w ∈ ws, WOk n w) ∧ ws.length ≤ 4 ∧ HOk (m + 200) hd' := by
  obtain ⟨q, hd2, e2, q1, q2, k2⟩ := draw_ok (lim := 5) h (by omega) (by omega) (by decide)
  obtain ⟨u, rfl⟩ : ∃ u : Nat, q = u := ⟨q.toNat, by omega⟩
  obtain ⟨r, en', l1, ⟨hd3, rfl, k3⟩, l3, l4⟩ := lcL_rel (vs := [10]) (g := setD 10) (fe := toV (callF F__law_weighing (consA (varM 0) (consA (varM 1) nilA)))) (ds := rangeL 0 u) (en := [.mu .ref hd2, .v (.int n), .v (.str k.str), .no, .no, .no, .no, .no, .no, .no, .no, .no])
    (fun j en => ∃ hd', en = [.mu .ref hd', .v (.int n), .v (.str k.str), .no, .no, .no, .no, .no, .no, .no, .no, .no] ∧ HOk (m + 1 + 20 * j) hd') (fun _ x => ∃ w, x = encW w ∧ WOk n w) ⟨hd2, rfl, k2⟩ (fun i d en hd' ⟨hd', e, k'⟩ => by
      subst e
      have hi := (List.getElem?_eq_some_iff.mp (by assumption)).1
      rw [rangeL_len] at hi
      obtain ⟨w, hd4, e4, wk, k4⟩ := weighing_ok (n := n) k' (by omega) h2 h12
      refine ⟨[.mu .ref hd', .v (.int n), .v (.str k.str), .no, .no, .no, .no, .no, .no, .no, .v d, .no], encW w, [.mu .ref hd4, .v (.int n), .v (.str k.str), .no, .no, .no, .no, .no, .no, .no, .v d, .no], ?_, ?_, ⟨w, rfl, wk⟩, hd4, rfl, k4.mono (by omega)⟩
      · simp only [x_free0, x_freeS, free1_v, free1_no, free1_own, peek, peekL, thaw, argSls, argSl, als, nodup?, putBack, stepBack, tyOf, mutK, shOk, plainR, outs, x_seqS, List.replicate, List.append_nil, List.nil_append, List.cons_append, List.getElem?_cons_zero, List.getElem?_cons_succ, List.set_cons_zero, List.set_cons_succ, if_true, Bool.false_eq_true, if_false, reduceIte, List.contains_nil, List.contains_cons, Bool.not_false, Bool.not_true, Bool.and_true, Bool.true_and, Bool.and_false, Bool.or_false, Bool.false_or, Bool.false_and, Bool.true_or, Bool.or_true, addG_int, subI_int, eqG_int, neG_int, eqG_bl, neG_bl, cmpI_int, intG, lenG, absG, List.length_cons, sizeLine_eq, Nat.reduceLeDiff, Nat.reduceLT, Nat.zero_le, Nat.zero_add, List.length_nil, Nat.reduceAdd, beq_self_eq_true, Nat.reduceBEq, reduceCtorEq, Nat.reduceEqDiff, bd_ok, bd_bad, bd_err, x_nopS, x_badS, x_bkS, x_ctS, x_ifM, x_ifS, x_dropS, x_retS, x_retR_v, x_retR_fr, x_retR_al, x_retN, x_setS, x_setR_v, x_setR_fr, x_setR_al, x_varM, x_litM, x_liftO_v, x_liftO_fr, x_liftO_n, x_bin2, x_peek2, x_un1, x_asB, x_toB, x_andM, x_orM, x_notM, x_andV, x_orV, x_notV, x_nilA, x_consA, x_nilV, x_consV, x_tupM, x_lstM, x_callM, x_toV, x_toP, x_toPr_v, x_toPr_fr, x_toPr_al, callR_ok, x_callF, x_isaM, x_chainM, x_noPartM, x_partM, x_sliceM, x_setIx, x_mutM, x_mutK, x_par2, x_par3, x_asgS, x_setD, x_tupG, x_consG, x_nilG, x_seqN, x_enumN, x_seqV, x_enumI, x_zipI, x_rng1, x_rng2, x_sortSetM, x_rgM, kt_NoneType_int, kt_NoneType_bool, kt_NoneType_str, kt_NoneType_tuple, kt_NoneType_list, kt_NoneType_dict, kt_bool_int, kt_bool_bool, kt_bool_str, kt_bool_tuple, kt_bool_list, kt_bool_dict, kt_int_int, kt_int_bool, kt_int_str, kt_int_tuple, kt_int_list, kt_int_dict, kt_str_int, kt_str_bool, kt_str_str, kt_str_tuple, kt_str_list, kt_str_dict, kt_tuple_int, kt_tuple_bool, kt_tuple_str, kt_tuple_tuple, kt_tuple_list, kt_tuple_dict, kt_list_int, kt_list_bool, kt_list_str, kt_list_tuple, kt_list_list, kt_list_dict, Int.reduceLE, Int.reduceSub, Int.reduceToNat, Int.reduceNeg, and_self, true_and, and_true]
      · simp only [x_free0, x_freeS, free1_v, free1_no, free1_own, peek, peekL, thaw, argSls, argSl, als, nodup?, putBack, stepBack, tyOf, mutK, shOk, plainR, outs, x_seqS, List.replicate, List.append_nil, List.nil_append, List.cons_append, List.getElem?_cons_zero, List.getElem?_cons_succ, List.set_cons_zero, List.set_cons_succ, if_true, Bool.false_eq_true, if_false, reduceIte, List.contains_nil, List.contains_cons, Bool.not_false, Bool.not_true, Bool.and_true, Bool.true_and, Bool.and_false, Bool.or_false, Bool.false_or, Bool.false_and, Bool.true_or, Bool.or_true, addG_int, subI_int, eqG_int, neG_int, eqG_bl, neG_bl, cmpI_int, intG, lenG, absG, List.length_cons, sizeLine_eq, Nat.reduceLeDiff, Nat.reduceLT, Nat.zero_le, Nat.zero_add, List.length_nil, Nat.reduceAdd, beq_self_eq_true, Nat.reduceBEq, reduceCtorEq, Nat.reduceEqDiff, bd_ok, bd_bad, bd_err, x_nopS, x_badS, x_bkS, x_ctS, x_ifM, x_ifS, x_dropS, x_retS, x_retR_v, x_retR_fr, x_retR_al, x_retN, x_setS, x_setR_v, x_setR_fr, x_setR_al, x_varM, x_litM, x_liftO_v, x_liftO_fr, x_liftO_n, x_bin2, x_peek2, x_un1, x_asB, x_toB, x_andM, x_orM, x_notM, x_andV, x_orV, x_notV, x_nilA, x_consA, x_nilV, x_consV, x_tupM, x_lstM, x_callM, x_toV, x_toP, x_toPr_v, x_toPr_fr, x_toPr_al, callR_ok, x_callF, x_isaM, x_chainM, x_noPartM, x_partM, x_sliceM, x_setIx, x_mutM, x_mutK, x_par2, x_par3, x_asgS, x_setD, x_tupG, x_consG, x_nilG, x_seqN, x_enumN, x_seqV, x_enumI, x_zipI, x_rng1, x_rng2, x_sortSetM, x_rgM, kt_NoneType_int, kt_NoneType_bool, kt_NoneType_str, kt_NoneType_tuple, kt_NoneType_list, kt_NoneType_dict, kt_bool_int, kt_bool_bool, kt_bool_str, kt_bool_tuple, kt_bool_list, kt_bool_dict, kt_int_int, kt_int_bool, kt_int_str, kt_int_tuple, kt_int_list, kt_int_dict, kt_str_int, kt_str_bool, kt_str_str, kt_str_tuple, kt_str_list, kt_str_dict, kt_tuple_int, kt_tuple_bool, kt_tuple_str, kt_tuple_tuple, kt_tuple_list, kt_tuple_dict, kt_list_int, kt_list_bool, kt_list_str, kt_list_tuple, kt_list_list, kt_list_dict, Int.reduceLE, Int.reduceSub, Int.reduceToNat, Int.reduceNeg, and_self, true_and, and_true, e4, BEq.rfl])
  have back : ∀ r : List D, (∀ x ∈ r, ∃ w, x = encW w ∧ WOk n w) → ∃ ws : List Wg, r = ws.map encW ∧ ∀ w ∈ ws, WOk n w := fun r => by
    induction r with
    | nil => exact fun _ => ⟨[], rfl, by simp⟩
    | cons x r ih =>
      intro hx
      obtain ⟨ws, e, hw⟩ := ih fun y hy => hx y (List.mem_cons_of_mem _ hy)
      obtain ⟨w, rfl, wk⟩ := hx x List.mem_cons_self
      refine ⟨w :: ws, by rw [e]; rfl, fun v hv => ?_⟩
      rcases List.mem_cons.mp hv with rfl | hv
      · exact wk
      · exact hw v hv
  obtain ⟨ws, rfl, hws⟩ := back r fun x hx => by
    obtain ⟨i, hi, e⟩ := List.getElem_of_mem hx
    have hi2 : i < (rangeL 0 u).length := by omega
    exact l4 i _ x (List.getElem?_eq_getElem hi2) (by rw [List.getElem?_eq_getElem hi, e])
  have lw : ws.length = u := by rw [rangeL_len] at l3; simpa using l3
  have src : rng1 (callF F__law_draw (consA (varM 0) (consA (litM (.int 5)) nilA))) [.mu .ref hd, .v (.int n), .v (.str k.str), .no, .no, .no, .no, .no, .no, .no, .no, .no] = .ok (rangeL 0 u, none) [.mu .ref hd2, .v (.int n), .v (.str k.str), .no, .no, .no, .no, .no, .no, .no, .no, .no] := by
    simp only [x_free0, x_freeS, free1_v, free1_no, free1_own, peek, peekL, thaw, argSls, argSl, als, nodup?, putBack, stepBack, tyOf, mutK, shOk, plainR, outs, x_seqS, List.replicate, List.append_nil, List.nil_append, List.cons_append, List.getElem?_cons_zero, List.getElem?_cons_succ, List.set_cons_zero, List.set_cons_succ, if_true, Bool.false_eq_true, if_false, reduceIte, List.contains_nil, List.contains_cons, Bool.not_false, Bool.not_true, Bool.and_true, Bool.true_and, Bool.and_false, Bool.or_false, Bool.false_or, Bool.false_and, Bool.true_or, Bool.or_true, addG_int, subI_int, eqG_int, neG_int, eqG_bl, neG_bl, cmpI_int, intG, lenG, absG, List.length_cons, sizeLine_eq, Nat.reduceLeDiff, Nat.reduceLT, Nat.zero_le, Nat.zero_add, List.length_nil, Nat.reduceAdd, beq_self_eq_true, Nat.reduceBEq, reduceCtorEq, Nat.reduceEqDiff, bd_ok, bd_bad, bd_err, x_nopS, x_badS, x_bkS, x_ctS, x_ifM, x_ifS, x_dropS, x_retS, x_retR_v, x_retR_fr, x_retR_al, x_retN, x_setS, x_setR_v, x_setR_fr, x_setR_al, x_varM, x_litM, x_liftO_v, x_liftO_fr, x_liftO_n, x_bin2, x_peek2, x_un1, x_asB, x_toB, x_andM, x_orM, x_notM, x_andV, x_orV, x_notV, x_nilA, x_consA, x_nilV, x_consV, x_tupM, x_lstM, x_callM, x_toV, x_toP, x_toPr_v, x_toPr_fr, x_toPr_al, callR_ok, x_callF, x_isaM, x_chainM, x_noPartM, x_partM, x_sliceM, x_setIx, x_mutM, x_mutK, x_par2, x_par3, x_asgS, x_setD, x_tupG, x_consG, x_nilG, x_seqN, x_enumN, x_seqV, x_enumI, x_zipI, x_rng1, x_rng2, x_sortSetM, x_rgM, kt_NoneType_int, kt_NoneType_bool, kt_NoneType_str, kt_NoneType_tuple, kt_NoneType_list, kt_NoneType_dict, kt_bool_int, kt_bool_bool, kt_bool_str, kt_bool_tuple, kt_bool_list, kt_bool_dict, kt_int_int, kt_int_bool, kt_int_str, kt_int_tuple, kt_int_list, kt_int_dict, kt_str_int, kt_str_bool, kt_str_str, kt_str_tuple, kt_str_list, kt_str_dict, kt_tuple_int, kt_tuple_bool, kt_tuple_str, kt_tuple_tuple, kt_tuple_list, kt_tuple_dict, kt_list_int, kt_list_bool, kt_list_str, kt_list_tuple, kt_list_list, kt_list_dict, Int.reduceLE, Int.reduceSub, Int.reduceToNat, Int.reduceNeg, and_self, true_and, and_true, e2, Int.toNat_natCast]
    rw [if_pos (by omega)]
  have lc := lcM_none (vs := [10]) (g := setD 10) (ft := yesM) (fe := toV (callF F__law_weighing (consA (varM 0) (consA (varM 1) nilA)))) src l1
  exact ⟨ws, hd3, lc, hws, by omega, k3.mono (by rw [rangeL_len]; omega)⟩
theorem at_lc (i : Nat) {ord l : List Int} {n : Nat} {s0 s1 s2 s3 s4 s6 s7 s8 s9 s10 : Sl} (hi : i = 7 ∧ s7 = .v (.tup (intL l)) ∨ i = 8 ∧ s8 = .v (.tup (intL l))) (hl : ∀ x ∈ l, 0 ≤ x ∧ x < ord.length) : lcM (seqN i) [11] (setD 11) yesM (toV (bin2 ixG (varM 5) (varM 11))) [s0, s1, s2, s3, s4, .mu .own (.lst (intL ord)), s6, s7, s8, s9, s10, .no] =
    .ok (.fr (.lst (intL (l.map (at_ ord))))) [s0, s1, s2, s3, s4, .mu .own (.lst (intL ord)), s6, s7, s8, s9, s10, .no] := by
  have e : intL (l.map (at_ ord)) = l.map fun x => .int (at_ ord x) := by unfold intL; rw [List.map_map]; rfl
  refine lcM_none' (ds := intL l) ?_ ?_
  · rcases hi with ⟨rfl, rfl⟩ | ⟨rfl, rfl⟩ <;> simp only [x_free0, x_freeS, free1_v, free1_no, free1_own, peek, peekL, thaw, argSls, argSl, als, nodup?, putBack, stepBack, tyOf, mutK, shOk, plainR, outs, x_seqS, List.replicate, List.append_nil, List.nil_append, List.cons_append, List.getElem?_cons_zero, List.getElem?_cons_succ, List.set_cons_zero, List.set_cons_succ, if_true, Bool.false_eq_true, if_false, reduceIte, List.contains_nil, List.contains_cons, Bool.not_false, Bool.not_true, Bool.and_true, Bool.true_and, Bool.and_false, Bool.or_false, Bool.false_or, Bool.false_and, Bool.true_or, Bool.or_true, addG_int, subI_int, eqG_int, neG_int, eqG_bl, neG_bl, cmpI_int, intG, lenG, absG, List.length_cons, sizeLine_eq, Nat.reduceLeDiff, Nat.reduceLT, Nat.zero_le, Nat.zero_add, List.length_nil, Nat.reduceAdd, beq_self_eq_true, Nat.reduceBEq, reduceCtorEq, Nat.reduceEqDiff, bd_ok, bd_bad, bd_err, x_nopS, x_badS, x_bkS, x_ctS, x_ifM, x_ifS, x_dropS, x_retS, x_retR_v, x_retR_fr, x_retR_al, x_retN, x_setS, x_setR_v, x_setR_fr, x_setR_al, x_varM, x_litM, x_liftO_v, x_liftO_fr, x_liftO_n, x_bin2, x_peek2, x_un1, x_asB, x_toB, x_andM, x_orM, x_notM, x_andV, x_orV, x_notV, x_nilA, x_consA, x_nilV, x_consV, x_tupM, x_lstM, x_callM, x_toV, x_toP, x_toPr_v, x_toPr_fr, x_toPr_al, callR_ok, x_callF, x_isaM, x_chainM, x_noPartM, x_partM, x_sliceM, x_setIx, x_mutM, x_mutK, x_par2, x_par3, x_asgS, x_setD, x_tupG, x_consG, x_nilG, x_seqN, x_enumN, x_seqV, x_enumI, x_zipI, x_rng1, x_rng2, x_sortSetM, x_rgM, kt_NoneType_int, kt_NoneType_bool, kt_NoneType_str, kt_NoneType_tuple, kt_NoneType_list, kt_NoneType_dict, kt_bool_int, kt_bool_bool, kt_bool_str, kt_bool_tuple, kt_bool_list, kt_bool_dict, kt_int_int, kt_int_bool, kt_int_str, kt_int_tuple, kt_int_list, kt_int_dict, kt_str_int, kt_str_bool, kt_str_str, kt_str_tuple, kt_str_list, kt_str_dict, kt_tuple_int, kt_tuple_bool, kt_tuple_str, kt_tuple_tuple, kt_tuple_list, kt_tuple_dict, kt_list_int, kt_list_bool, kt_list_str, kt_list_tuple, kt_list_list, kt_list_dict, Int.reduceLE, Int.reduceSub, Int.reduceToNat, Int.reduceNeg, and_self, true_and, and_true]
  · rw [e]
    refine lcL_mapX D.int _ fun x hx => ?_
    obtain ⟨x0, x1⟩ := hl x hx
    have g : ixG (.lst (intL ord)) (.int x) = some (.v (.int (at_ ord x))) := by
      obtain ⟨n, rfl⟩ : ∃ n : Nat, x = n := ⟨x.toNat, by omega⟩
      refine ixG_lst ?_
      unfold intL at_
      rw [List.getElem?_map, List.getElem?_eq_getElem (by omega), Int.toNat_natCast, List.getD_eq_getElem?_getD, List.getElem?_eq_getElem (by omega)]
      rfl
    refine ⟨[s0, s1, s2, s3, s4, .mu .own (.lst (intL ord)), s6, s7, s8, s9, s10, .v (.int x)], [s0, s1, s2, s3, s4, .mu .own (.lst (intL ord)), s6, s7, s8, s9, s10, .v (.int x)], ?_, ?_, rfl⟩
    · simp only [x_free0, x_freeS, free1_v, free1_no, free1_own, peek, peekL, thaw, argSls, argSl, als, nodup?, putBack, stepBack, tyOf, mutK, shOk, plainR, outs, x_seqS, List.replicate, List.append_nil, List.nil_append, List.cons_append, List.getElem?_cons_zero, List.getElem?_cons_succ, List.set_cons_zero, List.set_cons_succ, if_true, Bool.false_eq_true, if_false, reduceIte, List.contains_nil, List.contains_cons, Bool.not_false, Bool.not_true, Bool.and_true, Bool.true_and, Bool.and_false, Bool.or_false, Bool.false_or, Bool.false_and, Bool.true_or, Bool.or_true, addG_int, subI_int, eqG_int, neG_int, eqG_bl, neG_bl, cmpI_int, intG, lenG, absG, List.length_cons, sizeLine_eq, Nat.reduceLeDiff, Nat.reduceLT, Nat.zero_le, Nat.zero_add, List.length_nil, Nat.reduceAdd, beq_self_eq_true, Nat.reduceBEq, reduceCtorEq, Nat.reduceEqDiff, bd_ok, bd_bad, bd_err, x_nopS, x_badS, x_bkS, x_ctS, x_ifM, x_ifS, x_dropS, x_retS, x_retR_v, x_retR_fr, x_retR_al, x_retN, x_setS, x_setR_v, x_setR_fr, x_setR_al, x_varM, x_litM, x_liftO_v, x_liftO_fr, x_liftO_n, x_bin2, x_peek2, x_un1, x_asB, x_toB, x_andM, x_orM, x_notM, x_andV, x_orV, x_notV, x_nilA, x_consA, x_nilV, x_consV, x_tupM, x_lstM, x_callM, x_toV, x_toP, x_toPr_v, x_toPr_fr, x_toPr_al, callR_ok, x_callF, x_isaM, x_chainM, x_noPartM, x_partM, x_sliceM, x_setIx, x_mutM, x_mutK, x_par2, x_par3, x_asgS, x_setD, x_tupG, x_consG, x_nilG, x_seqN, x_enumN, x_seqV, x_enumI, x_zipI, x_rng1, x_rng2, x_sortSetM, x_rgM, kt_NoneType_int, kt_NoneType_bool, kt_NoneType_str, kt_NoneType_tuple, kt_NoneType_list, kt_NoneType_dict, kt_bool_int, kt_bool_bool, kt_bool_str, kt_bool_tuple, kt_bool_list, kt_bool_dict, kt_int_int, kt_int_bool, kt_int_str, kt_int_tuple, kt_int_list, kt_int_dict, kt_str_int, kt_str_bool, kt_str_str, kt_str_tuple, kt_str_list, kt_str_dict, kt_tuple_int, kt_tuple_bool, kt_tuple_str, kt_tuple_tuple, kt_tuple_list, kt_tuple_dict, kt_list_int, kt_list_bool, kt_list_str, kt_list_tuple, kt_list_list, kt_list_dict, Int.reduceLE, Int.reduceSub, Int.reduceToNat, Int.reduceNeg, and_self, true_and, and_true, wipeE]
    · simp only [x_free0, x_freeS, free1_v, free1_no, free1_own, peek, peekL, thaw, argSls, argSl, als, nodup?, putBack, stepBack, tyOf, mutK, shOk, plainR, outs, x_seqS, List.replicate, List.append_nil, List.nil_append, List.cons_append, List.getElem?_cons_zero, List.getElem?_cons_succ, List.set_cons_zero, List.set_cons_succ, if_true, Bool.false_eq_true, if_false, reduceIte, List.contains_nil, List.contains_cons, Bool.not_false, Bool.not_true, Bool.and_true, Bool.true_and, Bool.and_false, Bool.or_false, Bool.false_or, Bool.false_and, Bool.true_or, Bool.or_true, addG_int, subI_int, eqG_int, neG_int, eqG_bl, neG_bl, cmpI_int, intG, lenG, absG, List.length_cons, sizeLine_eq, Nat.reduceLeDiff, Nat.reduceLT, Nat.zero_le, Nat.zero_add, List.length_nil, Nat.reduceAdd, beq_self_eq_true, Nat.reduceBEq, reduceCtorEq, Nat.reduceEqDiff, bd_ok, bd_bad, bd_err, x_nopS, x_badS, x_bkS, x_ctS, x_ifM, x_ifS, x_dropS, x_retS, x_retR_v, x_retR_fr, x_retR_al, x_retN, x_setS, x_setR_v, x_setR_fr, x_setR_al, x_varM, x_litM, x_liftO_v, x_liftO_fr, x_liftO_n, x_bin2, x_peek2, x_un1, x_asB, x_toB, x_andM, x_orM, x_notM, x_andV, x_orV, x_notV, x_nilA, x_consA, x_nilV, x_consV, x_tupM, x_lstM, x_callM, x_toV, x_toP, x_toPr_v, x_toPr_fr, x_toPr_al, callR_ok, x_callF, x_isaM, x_chainM, x_noPartM, x_partM, x_sliceM, x_setIx, x_mutM, x_mutK, x_par2, x_par3, x_asgS, x_setD, x_tupG, x_consG, x_nilG, x_seqN, x_enumN, x_seqV, x_enumI, x_zipI, x_rng1, x_rng2, x_sortSetM, x_rgM, kt_NoneType_int, kt_NoneType_bool, kt_NoneType_str, kt_NoneType_tuple, kt_NoneType_list, kt_NoneType_dict, kt_bool_int, kt_bool_bool, kt_bool_str, kt_bool_tuple, kt_bool_list, kt_bool_dict, kt_int_int, kt_int_bool, kt_int_str, kt_int_tuple, kt_int_list, kt_int_dict, kt_str_int, kt_str_bool, kt_str_str, kt_str_tuple, kt_str_list, kt_str_dict, kt_tuple_int, kt_tuple_bool, kt_tuple_str, kt_tuple_tuple, kt_tuple_list, kt_tuple_dict, kt_list_int, kt_list_bool, kt_list_str, kt_list_tuple, kt_list_list, kt_list_dict, Int.reduceLE, Int.reduceSub, Int.reduceToNat, Int.reduceNeg, and_self, true_and, and_true, g]
/-- the weighings, with other names -/
theorem called_ok {n : Nat} {ord : List Int} {ws : List Wg} {s0 s1 s2 s4 s9 s10 : Sl} (hp : ord.Perm (rg n)) (hw : ∀ w ∈ ws, WOk n w) (hl : ws.length ≤ 100) : ∃ s7 s8, forL (tupG 2 (consG (setD 7) (consG (setD 8) nilG))) (dropS (mutM "list" 6 appendF (consV (toV (tupM (consV (toV (callM tupleG (consA (callM sortG (consA (lcM (seqN 7) [11] (setD 11) yesM (toV (bin2 ixG (varM 5) (varM 11)))) nilA)) nilA))) (consV (toV (callM tupleG (consA (callM sortG (consA (lcM (seqN 8) [11] (setD 11) yesM (toV (bin2 ixG (varM 5) (varM 11)))) nilA)) nilA))) nilV)))) nilV))) (ws.map encW) [s0, s1, s2, .v (.tup (ws.map encW)), s4, .mu .own (.lst (intL ord)), .mu .own (.lst []), .no, .no, s9, s10, .no] =
    .ok .nx [s0, s1, s2, .v (.tup (ws.map encW)), s4, .mu .own (.lst (intL ord)), .mu .own (.lst ((ws.map (ren ord)).map encW)), s7, s8, s9, s10, .no] := by
  obtain ⟨en', e1, s7, s8, e2, _⟩ := forL_end (g := tupG 2 (consG (setD 7) (consG (setD 8) nilG))) (body := (dropS (mutM "list" 6 appendF (consV (toV (tupM (consV (toV (callM tupleG (consA (callM sortG (consA (lcM (seqN 7) [11] (setD 11) yesM (toV (bin2 ixG (varM 5) (varM 11)))) nilA)) nilA))) (consV (toV (callM tupleG (consA (callM sortG (consA (lcM (seqN 8) [11] (setD 11) yesM (toV (bin2 ixG (varM 5) (varM 11)))) nilA)) nilA))) nilV)))) nilV)))) (all := ws.map encW) (en := [s0, s1, s2, .v (.tup (ws.map encW)), s4, .mu .own (.lst (intL ord)), .mu .own (.lst []), .no, .no, s9, s10, .no])
    (fun i en => ∃ s7 s8, en = [s0, s1, s2, .v (.tup (ws.map encW)), s4, .mu .own (.lst (intL ord)), .mu .own (.lst (((ws.take i).map (ren ord)).map encW)), s7, s8, s9, s10, .no] ∧ free1 s7 = true ∧ free1 s8 = true) ⟨.no, .no, by simp, rfl, rfl⟩ (fun i d en hd ⟨s7, s8, e, f7, f8⟩ => by
      subst e
      rw [List.getElem?_map] at hd
      cases hq : ws[i]? with
      | none => rw [hq] at hd; cases hd
      | some w =>
        rw [hq] at hd
        cases hd
        have hi := (List.getElem?_eq_some_iff.mp hq).1
        have wk := hw w (List.mem_of_getElem? hq)
        have lo := ord_len hp
        obtain ⟨X, hX⟩ : ∃ X, X = ((ws.take i).map (ren ord)).map encW := ⟨_, rfl⟩
        have q1 := at_lc 7 (n := n) (ord := ord) (l := w.1) (s0 := s0) (s1 := s1) (s2 := s2) (s3 := .v (.tup (ws.map encW))) (s4 := s4) (s6 := .mu .own (.lst X)) (s7 := .v (.tup (intL w.1))) (s8 := .v (.tup (intL w.2))) (s9 := s9) (s10 := s10) (.inl ⟨rfl, rfl⟩) (fun x hx => by have := wk.a1 x hx; omega)
        have q2 := at_lc 8 (n := n) (ord := ord) (l := w.2) (s0 := s0) (s1 := s1) (s2 := s2) (s3 := .v (.tup (ws.map encW))) (s4 := s4) (s6 := .mu .own (.lst X)) (s7 := .v (.tup (intL w.1))) (s8 := .v (.tup (intL w.2))) (s9 := s9) (s10 := s10) (.inr ⟨rfl, rfl⟩) (fun x hx => by have := wk.a2 x hx; omega)
        have g1 := (srt_ok (w.1.map (at_ ord))).1
        have g2 := (srt_ok (w.2.map (at_ ord))).1
        have ap : ∀ d, appendF (.lst X) [d] = some (.lst (X ++ [d]), .non) := fun d => app_ok (by rw [hX]; simp; omega)
        have eX : X ++ [encW (ren ord w)] = ((ws.take (i + 1)).map (ren ord)).map encW := by rw [hX, List.take_add_one, hq]; simp
        rw [← hX]
        refine ⟨[s0, s1, s2, .v (.tup (ws.map encW)), s4, .mu .own (.lst (intL ord)), .mu .own (.lst X), .v (.tup (intL w.1)), .v (.tup (intL w.2)), s9, s10, .no], _, ?_, ?_, .v (.tup (intL w.1)), .v (.tup (intL w.2)), by rw [← eX], rfl, rfl⟩
        · simp only [x_free0, x_freeS, free1_v, free1_no, free1_own, peek, peekL, thaw, argSls, argSl, als, nodup?, putBack, stepBack, tyOf, mutK, shOk, plainR, outs, x_seqS, List.replicate, List.append_nil, List.nil_append, List.cons_append, List.getElem?_cons_zero, List.getElem?_cons_succ, List.set_cons_zero, List.set_cons_succ, if_true, Bool.false_eq_true, if_false, reduceIte, List.contains_nil, List.contains_cons, Bool.not_false, Bool.not_true, Bool.and_true, Bool.true_and, Bool.and_false, Bool.or_false, Bool.false_or, Bool.false_and, Bool.true_or, Bool.or_true, addG_int, subI_int, eqG_int, neG_int, eqG_bl, neG_bl, cmpI_int, intG, lenG, absG, List.length_cons, sizeLine_eq, Nat.reduceLeDiff, Nat.reduceLT, Nat.zero_le, Nat.zero_add, List.length_nil, Nat.reduceAdd, beq_self_eq_true, Nat.reduceBEq, reduceCtorEq, Nat.reduceEqDiff, bd_ok, bd_bad, bd_err, x_nopS, x_badS, x_bkS, x_ctS, x_ifM, x_ifS, x_dropS, x_retS, x_retR_v, x_retR_fr, x_retR_al, x_retN, x_setS, x_setR_v, x_setR_fr, x_setR_al, x_varM, x_litM, x_liftO_v, x_liftO_fr, x_liftO_n, x_bin2, x_peek2, x_un1, x_asB, x_toB, x_andM, x_orM, x_notM, x_andV, x_orV, x_notV, x_nilA, x_consA, x_nilV, x_consV, x_tupM, x_lstM, x_callM, x_toV, x_toP, x_toPr_v, x_toPr_fr, x_toPr_al, callR_ok, x_callF, x_isaM, x_chainM, x_noPartM, x_partM, x_sliceM, x_setIx, x_mutM, x_mutK, x_par2, x_par3, x_asgS, x_setD, x_tupG, x_consG, x_nilG, x_seqN, x_enumN, x_seqV, x_enumI, x_zipI, x_rng1, x_rng2, x_sortSetM, x_rgM, kt_NoneType_int, kt_NoneType_bool, kt_NoneType_str, kt_NoneType_tuple, kt_NoneType_list, kt_NoneType_dict, kt_bool_int, kt_bool_bool, kt_bool_str, kt_bool_tuple, kt_bool_list, kt_bool_dict, kt_int_int, kt_int_bool, kt_int_str, kt_int_tuple, kt_int_list, kt_int_dict, kt_str_int, kt_str_bool, kt_str_str, kt_str_tuple, kt_str_list, kt_str_dict, kt_tuple_int, kt_tuple_bool, kt_tuple_str, kt_tuple_tuple, kt_tuple_list, kt_tuple_dict, kt_list_int, kt_list_bool, kt_list_str, kt_list_tuple, kt_list_list, kt_list_dict, Int.reduceLE, Int.reduceSub, Int.reduceToNat, Int.reduceNeg, and_self, true_and, and_true, encW, f7, f8]
        · simp only [x_free0, x_freeS, free1_v, free1_no, free1_own, peek, peekL, thaw, argSls, argSl, als, nodup?, putBack, stepBack, tyOf, mutK, shOk, plainR, outs, x_seqS, List.replicate, List.append_nil, List.nil_append, List.cons_append, List.getElem?_cons_zero, List.getElem?_cons_succ, List.set_cons_zero, List.set_cons_succ, if_true, Bool.false_eq_true, if_false, reduceIte, List.contains_nil, List.contains_cons, Bool.not_false, Bool.not_true, Bool.and_true, Bool.true_and, Bool.and_false, Bool.or_false, Bool.false_or, Bool.false_and, Bool.true_or, Bool.or_true, addG_int, subI_int, eqG_int, neG_int, eqG_bl, neG_bl, cmpI_int, intG, lenG, absG, List.length_cons, sizeLine_eq, Nat.reduceLeDiff, Nat.reduceLT, Nat.zero_le, Nat.zero_add, List.length_nil, Nat.reduceAdd, beq_self_eq_true, Nat.reduceBEq, reduceCtorEq, Nat.reduceEqDiff, bd_ok, bd_bad, bd_err, x_nopS, x_badS, x_bkS, x_ctS, x_ifM, x_ifS, x_dropS, x_retS, x_retR_v, x_retR_fr, x_retR_al, x_retN, x_setS, x_setR_v, x_setR_fr, x_setR_al, x_varM, x_litM, x_liftO_v, x_liftO_fr, x_liftO_n, x_bin2, x_peek2, x_un1, x_asB, x_toB, x_andM, x_orM, x_notM, x_andV, x_orV, x_notV, x_nilA, x_consA, x_nilV, x_consV, x_tupM, x_lstM, x_callM, x_toV, x_toP, x_toPr_v, x_toPr_fr, x_toPr_al, callR_ok, x_callF, x_isaM, x_chainM, x_noPartM, x_partM, x_sliceM, x_setIx, x_mutM, x_mutK, x_par2, x_par3, x_asgS, x_setD, x_tupG, x_consG, x_nilG, x_seqN, x_enumN, x_seqV, x_enumI, x_zipI, x_rng1, x_rng2, x_sortSetM, x_rgM, kt_NoneType_int, kt_NoneType_bool, kt_NoneType_str, kt_NoneType_tuple, kt_NoneType_list, kt_NoneType_dict, kt_bool_int, kt_bool_bool, kt_bool_str, kt_bool_tuple, kt_bool_list, kt_bool_dict, kt_int_int, kt_int_bool, kt_int_str, kt_int_tuple, kt_int_list, kt_int_dict, kt_str_int, kt_str_bool, kt_str_str, kt_str_tuple, kt_str_list, kt_str_dict, kt_tuple_int, kt_tuple_bool, kt_tuple_str, kt_tuple_tuple, kt_tuple_list, kt_tuple_dict, kt_list_int, kt_list_bool, kt_list_str, kt_list_tuple, kt_list_list, kt_list_dict, Int.reduceLE, Int.reduceSub, Int.reduceToNat, Int.reduceNeg, and_self, true_and, and_true, q1, q2, g1, g2, tupleG, ap, BEq.rfl, encW, ren])
  refine ⟨s7, s8, ?_⟩
  rw [e1, e2, List.length_map, List.take_length]
/-- alike in the weighings -/
theorem tells_loop {n : Nat} {ws : List Wg} {a b : Cs} {s0 s1 s2 : Sl} (h : rowOf ws a = rowOf ws b) : ∃ s9, free1 s9 = true ∧ forL (setD 9) (ifS (toB (bin2 neG (callF F__law_tells (consA (varM 9) (consA (toP (bin2 ixG (varM 4) (litM (.int 1)))) nilA))) (callF F__law_tells (consA (varM 9) (consA (toP (bin2 ixG (varM 4) (litM (.int 2)))) nilA))))) (retS (litM (.bl false))) nopS) (ws.map encW) [s0, s1, s2, .v (.tup (ws.map encW)), .v (.tup [.str "two", encC a, encC b]), .no, .no, .no, .no, .no, .no, .no] =
    .ok .nx [s0, s1, s2, .v (.tup (ws.map encW)), .v (.tup [.str "two", encC a, encC b]), .no, .no, .no, .no, s9, .no, .no] := by
  obtain ⟨en', e1, s9, e2, f⟩ := forL_end (g := setD 9) (body := (ifS (toB (bin2 neG (callF F__law_tells (consA (varM 9) (consA (toP (bin2 ixG (varM 4) (litM (.int 1)))) nilA))) (callF F__law_tells (consA (varM 9) (consA (toP (bin2 ixG (varM 4) (litM (.int 2)))) nilA))))) (retS (litM (.bl false))) nopS)) (all := ws.map encW) (en := [s0, s1, s2, .v (.tup (ws.map encW)), .v (.tup [.str "two", encC a, encC b]), .no, .no, .no, .no, .no, .no, .no])
    (fun i en => ∃ s9, en = [s0, s1, s2, .v (.tup (ws.map encW)), .v (.tup [.str "two", encC a, encC b]), .no, .no, .no, .no, s9, .no, .no] ∧ free1 s9 = true) ⟨.no, rfl, rfl⟩ (fun i d en hd ⟨s9, e, f9⟩ => by
      subst e
      rw [List.getElem?_map] at hd
      cases hq : ws[i]? with
      | none => rw [hq] at hd; cases hd
      | some w =>
        rw [hq] at hd
        cases hd
        have te : tells w a = tells w b := by
          have := congrArg (fun l => l[i]?) h
          simp only [rowOf, List.getElem?_map, hq, Option.map_some, Option.some.injEq] at this
          exact this
        have ta := law_tells_ok w a
        have tb := law_tells_ok w b
        rw [← te] at tb
        have bq : (tells w a == tells w a) = true := beq_self_eq_true _
        refine ⟨[s0, s1, s2, .v (.tup (ws.map encW)), .v (.tup [.str "two", encC a, encC b]), .no, .no, .no, .no, .v (encW w), .no, .no], [s0, s1, s2, .v (.tup (ws.map encW)), .v (.tup [.str "two", encC a, encC b]), .no, .no, .no, .no, .v (encW w), .no, .no], ?_, ?_, .v (encW w), rfl, rfl⟩
        · simp only [x_free0, x_freeS, free1_v, free1_no, free1_own, peek, peekL, thaw, argSls, argSl, als, nodup?, putBack, stepBack, tyOf, mutK, shOk, plainR, outs, x_seqS, List.replicate, List.append_nil, List.nil_append, List.cons_append, List.getElem?_cons_zero, List.getElem?_cons_succ, List.set_cons_zero, List.set_cons_succ, if_true, Bool.false_eq_true, if_false, reduceIte, List.contains_nil, List.contains_cons, Bool.not_false, Bool.not_true, Bool.and_true, Bool.true_and, Bool.and_false, Bool.or_false, Bool.false_or, Bool.false_and, Bool.true_or, Bool.or_true, addG_int, subI_int, eqG_int, neG_int, eqG_bl, neG_bl, cmpI_int, intG, lenG, absG, List.length_cons, sizeLine_eq, Nat.reduceLeDiff, Nat.reduceLT, Nat.zero_le, Nat.zero_add, List.length_nil, Nat.reduceAdd, beq_self_eq_true, Nat.reduceBEq, reduceCtorEq, Nat.reduceEqDiff, bd_ok, bd_bad, bd_err, x_nopS, x_badS, x_bkS, x_ctS, x_ifM, x_ifS, x_dropS, x_retS, x_retR_v, x_retR_fr, x_retR_al, x_retN, x_setS, x_setR_v, x_setR_fr, x_setR_al, x_varM, x_litM, x_liftO_v, x_liftO_fr, x_liftO_n, x_bin2, x_peek2, x_un1, x_asB, x_toB, x_andM, x_orM, x_notM, x_andV, x_orV, x_notV, x_nilA, x_consA, x_nilV, x_consV, x_tupM, x_lstM, x_callM, x_toV, x_toP, x_toPr_v, x_toPr_fr, x_toPr_al, callR_ok, x_callF, x_isaM, x_chainM, x_noPartM, x_partM, x_sliceM, x_setIx, x_mutM, x_mutK, x_par2, x_par3, x_asgS, x_setD, x_tupG, x_consG, x_nilG, x_seqN, x_enumN, x_seqV, x_enumI, x_zipI, x_rng1, x_rng2, x_sortSetM, x_rgM, kt_NoneType_int, kt_NoneType_bool, kt_NoneType_str, kt_NoneType_tuple, kt_NoneType_list, kt_NoneType_dict, kt_bool_int, kt_bool_bool, kt_bool_str, kt_bool_tuple, kt_bool_list, kt_bool_dict, kt_int_int, kt_int_bool, kt_int_str, kt_int_tuple, kt_int_list, kt_int_dict, kt_str_int, kt_str_bool, kt_str_str, kt_str_tuple, kt_str_list, kt_str_dict, kt_tuple_int, kt_tuple_bool, kt_tuple_str, kt_tuple_tuple, kt_tuple_list, kt_tuple_dict, kt_list_int, kt_list_bool, kt_list_str, kt_list_tuple, kt_list_list, kt_list_dict, Int.reduceLE, Int.reduceSub, Int.reduceToNat, Int.reduceNeg, and_self, true_and, and_true, f9]
        · simp only [x_free0, x_freeS, free1_v, free1_no, free1_own, peek, peekL, thaw, argSls, argSl, als, nodup?, putBack, stepBack, tyOf, mutK, shOk, plainR, outs, x_seqS, List.replicate, List.append_nil, List.nil_append, List.cons_append, List.getElem?_cons_zero, List.getElem?_cons_succ, List.set_cons_zero, List.set_cons_succ, if_true, Bool.false_eq_true, if_false, reduceIte, List.contains_nil, List.contains_cons, Bool.not_false, Bool.not_true, Bool.and_true, Bool.true_and, Bool.and_false, Bool.or_false, Bool.false_or, Bool.false_and, Bool.true_or, Bool.or_true, addG_int, subI_int, eqG_int, neG_int, eqG_bl, neG_bl, cmpI_int, intG, lenG, absG, List.length_cons, sizeLine_eq, Nat.reduceLeDiff, Nat.reduceLT, Nat.zero_le, Nat.zero_add, List.length_nil, Nat.reduceAdd, beq_self_eq_true, Nat.reduceBEq, reduceCtorEq, Nat.reduceEqDiff, bd_ok, bd_bad, bd_err, x_nopS, x_badS, x_bkS, x_ctS, x_ifM, x_ifS, x_dropS, x_retS, x_retR_v, x_retR_fr, x_retR_al, x_retN, x_setS, x_setR_v, x_setR_fr, x_setR_al, x_varM, x_litM, x_liftO_v, x_liftO_fr, x_liftO_n, x_bin2, x_peek2, x_un1, x_asB, x_toB, x_andM, x_orM, x_notM, x_andV, x_orV, x_notV, x_nilA, x_consA, x_nilV, x_consV, x_tupM, x_lstM, x_callM, x_toV, x_toP, x_toPr_v, x_toPr_fr, x_toPr_al, callR_ok, x_callF, x_isaM, x_chainM, x_noPartM, x_partM, x_sliceM, x_setIx, x_mutM, x_mutK, x_par2, x_par3, x_asgS, x_setD, x_tupG, x_consG, x_nilG, x_seqN, x_enumN, x_seqV, x_enumI, x_zipI, x_rng1, x_rng2, x_sortSetM, x_rgM, kt_NoneType_int, kt_NoneType_bool, kt_NoneType_str, kt_NoneType_tuple, kt_NoneType_list, kt_NoneType_dict, kt_bool_int, kt_bool_bool, kt_bool_str, kt_bool_tuple, kt_bool_list, kt_bool_dict, kt_int_int, kt_int_bool, kt_int_str, kt_int_tuple, kt_int_list, kt_int_dict, kt_str_int, kt_str_bool, kt_str_str, kt_str_tuple, kt_str_list, kt_str_dict, kt_tuple_int, kt_tuple_bool, kt_tuple_str, kt_tuple_tuple, kt_tuple_list, kt_tuple_dict, kt_list_int, kt_list_bool, kt_list_str, kt_list_tuple, kt_list_list, kt_list_dict, Int.reduceLE, Int.reduceSub, Int.reduceToNat, Int.reduceNeg, and_self, true_and, and_true, ix3_1, ix3_2, ta, tb])
  exact ⟨s9, f, by rw [e1, e2]⟩
end K59
set_option linter.all false
set_option maxRecDepth 100000
set_option maxHeartbeats 4000000
namespace K59
open PySem PySem.Spec PyProof.Rows L2 Fw
theorem kd_of {d : D} (h : d ∈ [D.str "heavy", .str "either", .str "or none"]) : ∃ k : Kd, d = .str k.str := by
  simp only [List.mem_cons, List.not_mem_nil, or_false] at h
  rcases h with rfl | rfl | rfl
  · exact ⟨.hv, rfl⟩
  · exact ⟨.ei, rfl⟩
  · exact ⟨.on, rfl⟩
theorem rgm_ok {n : Nat} {s0 : Sl} {l : En} (h : n ≤ 12) : rgM1 (fun ds => .fr (.lst ds)) (varM 1) (s0 :: .v (.int n) :: l) = .ok (.fr (.lst (intL (rg n)))) (s0 :: .v (.int n) :: l) := by
  have t : 0 ≤ (n : Int) ∧ (n : Int) ≤ 16777216 ∧ (n : Int).toNat ≤ sizeLine := ⟨by omega, by omega, by rw [sizeLine_eq]; omega⟩
  unfold rgM1 M.bnd
  simp only [x_varM, List.getElem?_cons_succ, List.getElem?_cons_zero, peek]
  rw [if_pos t, rangeL_rg]
theorem right_ok {m : Nat} {hd : D} (h : HOk m hd) (hm : m < 2 ^ 26) : ∃ hd', F__law_is_right [.mu .ref hd] = .ok (.v (.bl true)) [.mu .ref hd'] ∧ HOk (m + 1000) hd' := by
  obtain ⟨q, hd1, e1, q1, q2, k1⟩ := draw_ok (lim := 11) h (by omega) (by omega) (by decide)
  obtain ⟨n, hn⟩ : ∃ n : Nat, (2 + q : Int) = n := ⟨(2 + q).toNat, by omega⟩
  have h2 : 2 ≤ n := by omega
  have h12 : n ≤ 12 := by omega
  obtain ⟨d2, hd2, m2, e2, k2⟩ := some_ok (ds := [D.str "heavy", .str "either", .str "or none"]) (.inl rfl) k1 (by omega) (by simp) (by simp)
  obtain ⟨k, rfl⟩ := kd_of m2
  obtain ⟨ws, hd3, e3, hw, wl, k3⟩ := many_ok (n := n) (k := k) k2 (by omega) h2 h12
  obtain ⟨r, e4, R⟩ := told_ok (n := n) (k := k) (ws := ws) (by omega) h12 hw wl
  obtain ⟨r', e5, R'⟩ := due_ok (n := n) (k := k) (ws := ws) h12
  have er := R'.uniq R
  subst er
  have fin : ∀ {hd4 : D} {s9 s10 : Sl}, HOk (m + 400) hd4 → ∃ (hd5 : D) (r2 : List D) (s7 s8 : Sl → Sl → Sl → Sl → Sl) (ord : List Int) (ws2 : List Wg), ws2 = ws.map (ren ord) ∧ F__law_mixed [.mu .ref hd4, .v (.lst (intL (rg n)))] = .ok (.fr (.lst (intL ord))) [.mu .ref hd5, .v (.lst (intL (rg n)))] ∧
      (∀ s0 s1 s2 s4, forL (tupG 2 (consG (setD 7) (consG (setD 8) nilG))) (dropS (mutM "list" 6 appendF (consV (toV (tupM (consV (toV (callM tupleG (consA (callM sortG (consA (lcM (seqN 7) [11] (setD 11) yesM (toV (bin2 ixG (varM 5) (varM 11)))) nilA)) nilA))) (consV (toV (callM tupleG (consA (callM sortG (consA (lcM (seqN 8) [11] (setD 11) yesM (toV (bin2 ixG (varM 5) (varM 11)))) nilA)) nilA))) nilV)))) nilV))) (ws.map encW) [s0, s1, s2, .v (.tup (ws.map encW)), s4, .mu .own (.lst (intL ord)), .mu .own (.lst []), .no, .no, s9, s10, .no] = .ok .nx [s0, s1, s2, .v (.tup (ws.map encW)), s4, .mu .own (.lst (intL ord)), .mu .own (.lst (ws2.map encW)), s7 s0 s1 s2 s4, s8 s0 s1 s2 s4, s9, s10, .no]) ∧
      F_told_apart [.v (.int n), .v (.str k.str), .v (.tup (ws2.map encW))] = .ok (.v (.tup r2)) [.v (.int n), .v (.str k.str), .v (.tup (ws2.map encW))] ∧ Res ((casesL n k).map (rowOf ws2)) (casesL n k) r2 ∧ ((casesL n k).map (rowOf ws2)).Perm ((casesL n k).map (rowOf ws)) ∧ HOk (m + 500) hd5 := fun {hd4 s9 s10} kk => by
    obtain ⟨ds', hd5, pm, e6, k6⟩ := mixed_ok (ds := intL (rg n)) kk (by simp [intL, rg_len]; omega) (by simp [intL, rg_len]; omega)
    obtain ⟨ord, rfl⟩ := int_back (l := rg n) (r := ds') fun x hx => pm.mem_iff.mp hx
    have hp := int_perm pm
    have hw2 : ∀ w ∈ ws.map (ren ord), WOk n w := fun w hm => by
      obtain ⟨v, hv, rfl⟩ := List.mem_map.mp hm
      exact ren_ok hp (hw v hv)
    obtain ⟨r2, e7, R2⟩ := told_ok (n := n) (k := k) (ws := ws.map (ren ord)) (by omega) h12 hw2 (by simpa using wl)
    refine ⟨hd5, r2, fun s0 s1 s2 s4 => Classical.choose (called_ok (s0 := s0) (s1 := s1) (s2 := s2) (s4 := s4) (s9 := s9) (s10 := s10) hp hw (by omega)), fun s0 s1 s2 s4 => Classical.choose (Classical.choose_spec (called_ok (s0 := s0) (s1 := s1) (s2 := s2) (s4 := s4) (s9 := s9) (s10 := s10) hp hw (by omega))), ord, _, rfl, e6, fun s0 s1 s2 s4 => Classical.choose_spec (Classical.choose_spec (called_ok (s0 := s0) (s1 := s1) (s2 := s2) (s4 := s4) (s9 := s9) (s10 := s10) hp hw (by omega))), e7, R2, rows_ren hp hw, k6.mono (by simp [intL, rg_len]; omega)⟩
  have rm := fun (s0 : Sl) (l : En) => rgm_ok (n := n) (s0 := s0) (l := l) h12
  rcases R.first with ⟨nd, rfl⟩ | ⟨nd, ci, cj, _, rfl⟩
  · -- all are told apart
    have i1 := is_self15 told_fit
    have nt := neG_self (d := .tup [.str "told"]) (fit_mono told_fit (by decide))
    by_cases h4 : ws.length < 4
    · obtain ⟨w, hd4, e8, wk, k8⟩ := weighing_ok (n := n) k3 (by omega) h2 h12
      obtain ⟨r3, e9, R3⟩ := told_ok (n := n) (k := k) (ws := ws ++ [w]) (by omega) h12 (fun v hv => by
        rcases List.mem_append.mp hv with hv | hv
        · exact hw v hv
        · simp at hv; subst hv; exact wk) (by simp; omega)
      have r3e : r3 = [.str "told"] := by
        rcases R3.first with ⟨_, e⟩ | ⟨nn, _⟩
        · exact e
        · exact absurd (nodup_more nd) nn
      subst r3e
      rw [List.map_append] at e9
      obtain ⟨hd5, r2, s7, s8, ord, ws2, _, f1, f2, f3, R2, pr, k9⟩ := fin (s9 := .no) (s10 := .no) (k8.mono (by omega))
      have r2e : r2 = [.str "told"] := by
        rcases R2.first with ⟨_, e⟩ | ⟨nn, _⟩
        · exact e
        · exact absurd (pr.nodup_iff.mpr nd) nn
      subst r2e
      have t4 : decide (((ws.length : Nat) : Int) < 4) = true := decide_eq_true (by omega)
      have ad : addG (.tup (ws.map encW)) (.tup [encW w]) = some (.v (.tup (ws.map encW ++ [encW w]))) := addT_ok (by simp; omega)
      have e9 : F_told_apart [.v (.int n), .v (.str k.str), .v (.tup (ws.map encW ++ [encW w]))] = .ok (.v (.tup [.str "told"])) [.v (.int n), .v (.str k.str), .v (.tup (ws.map encW ++ [encW w]))] := e9
      refine ⟨hd5, ?_, k9.mono (by omega)⟩
      unfold F__law_is_right fnD b__law_is_right
      simp only [x_free0, x_freeS, free1_v, free1_no, free1_own, peek, peekL, thaw, argSls, argSl, als, nodup?, putBack, stepBack, tyOf, mutK, shOk, plainR, outs, x_seqS, List.replicate, List.append_nil, List.nil_append, List.cons_append, List.getElem?_cons_zero, List.getElem?_cons_succ, List.set_cons_zero, List.set_cons_succ, if_true, Bool.false_eq_true, if_false, reduceIte, List.contains_nil, List.contains_cons, Bool.not_false, Bool.not_true, Bool.and_true, Bool.true_and, Bool.and_false, Bool.or_false, Bool.false_or, Bool.false_and, Bool.true_or, Bool.or_true, addG_int, subI_int, eqG_int, neG_int, eqG_bl, neG_bl, cmpI_int, intG, lenG, absG, List.length_cons, sizeLine_eq, Nat.reduceLeDiff, Nat.reduceLT, Nat.zero_le, Nat.zero_add, List.length_nil, Nat.reduceAdd, beq_self_eq_true, Nat.reduceBEq, reduceCtorEq, Nat.reduceEqDiff, bd_ok, bd_bad, bd_err, x_nopS, x_badS, x_bkS, x_ctS, x_ifM, x_ifS, x_dropS, x_retS, x_retR_v, x_retR_fr, x_retR_al, x_retN, x_setS, x_setR_v, x_setR_fr, x_setR_al, x_varM, x_litM, x_liftO_v, x_liftO_fr, x_liftO_n, x_bin2, x_peek2, x_un1, x_asB, x_toB, x_andM, x_orM, x_notM, x_andV, x_orV, x_notV, x_nilA, x_consA, x_nilV, x_consV, x_tupM, x_lstM, x_callM, x_toV, x_toP, x_toPr_v, x_toPr_fr, x_toPr_al, callR_ok, x_callF, x_isaM, x_chainM, x_noPartM, x_partM, x_sliceM, x_setIx, x_mutM, x_mutK, x_par2, x_par3, x_asgS, x_setD, x_tupG, x_consG, x_nilG, x_seqN, x_enumN, x_seqV, x_enumI, x_zipI, x_rng1, x_rng2, x_sortSetM, x_rgM, kt_NoneType_int, kt_NoneType_bool, kt_NoneType_str, kt_NoneType_tuple, kt_NoneType_list, kt_NoneType_dict, kt_bool_int, kt_bool_bool, kt_bool_str, kt_bool_tuple, kt_bool_list, kt_bool_dict, kt_int_int, kt_int_bool, kt_int_str, kt_int_tuple, kt_int_list, kt_int_dict, kt_str_int, kt_str_bool, kt_str_str, kt_str_tuple, kt_str_list, kt_str_dict, kt_tuple_int, kt_tuple_bool, kt_tuple_str, kt_tuple_tuple, kt_tuple_list, kt_tuple_dict, kt_list_int, kt_list_bool, kt_list_str, kt_list_tuple, kt_list_list, kt_list_dict, Int.reduceLE, Int.reduceSub, Int.reduceToNat, Int.reduceNeg, and_self, true_and, and_true, e1, hn, e2, e3, tupleG, e4, e5, i1, ix1_0, s_told_two, s_told_told, List.length_map, t4, e8, ad, e9, nt, rm, f1, x_forS, x_withSrc_none, f2, f3]
    · obtain ⟨hd5, r2, s7, s8, ord, ws2, _, f1, f2, f3, R2, pr, k9⟩ := fin (s9 := .no) (s10 := .no) (k3.mono (by omega))
      have r2e : r2 = [.str "told"] := by
        rcases R2.first with ⟨_, e⟩ | ⟨nn, _⟩
        · exact e
        · exact absurd (pr.nodup_iff.mpr nd) nn
      subst r2e
      have t4 : decide (((ws.length : Nat) : Int) < 4) = false := decide_eq_false (by omega)
      refine ⟨hd5, ?_, k9.mono (by omega)⟩
      unfold F__law_is_right fnD b__law_is_right
      simp only [x_free0, x_freeS, free1_v, free1_no, free1_own, peek, peekL, thaw, argSls, argSl, als, nodup?, putBack, stepBack, tyOf, mutK, shOk, plainR, outs, x_seqS, List.replicate, List.append_nil, List.nil_append, List.cons_append, List.getElem?_cons_zero, List.getElem?_cons_succ, List.set_cons_zero, List.set_cons_succ, if_true, Bool.false_eq_true, if_false, reduceIte, List.contains_nil, List.contains_cons, Bool.not_false, Bool.not_true, Bool.and_true, Bool.true_and, Bool.and_false, Bool.or_false, Bool.false_or, Bool.false_and, Bool.true_or, Bool.or_true, addG_int, subI_int, eqG_int, neG_int, eqG_bl, neG_bl, cmpI_int, intG, lenG, absG, List.length_cons, sizeLine_eq, Nat.reduceLeDiff, Nat.reduceLT, Nat.zero_le, Nat.zero_add, List.length_nil, Nat.reduceAdd, beq_self_eq_true, Nat.reduceBEq, reduceCtorEq, Nat.reduceEqDiff, bd_ok, bd_bad, bd_err, x_nopS, x_badS, x_bkS, x_ctS, x_ifM, x_ifS, x_dropS, x_retS, x_retR_v, x_retR_fr, x_retR_al, x_retN, x_setS, x_setR_v, x_setR_fr, x_setR_al, x_varM, x_litM, x_liftO_v, x_liftO_fr, x_liftO_n, x_bin2, x_peek2, x_un1, x_asB, x_toB, x_andM, x_orM, x_notM, x_andV, x_orV, x_notV, x_nilA, x_consA, x_nilV, x_consV, x_tupM, x_lstM, x_callM, x_toV, x_toP, x_toPr_v, x_toPr_fr, x_toPr_al, callR_ok, x_callF, x_isaM, x_chainM, x_noPartM, x_partM, x_sliceM, x_setIx, x_mutM, x_mutK, x_par2, x_par3, x_asgS, x_setD, x_tupG, x_consG, x_nilG, x_seqN, x_enumN, x_seqV, x_enumI, x_zipI, x_rng1, x_rng2, x_sortSetM, x_rgM, kt_NoneType_int, kt_NoneType_bool, kt_NoneType_str, kt_NoneType_tuple, kt_NoneType_list, kt_NoneType_dict, kt_bool_int, kt_bool_bool, kt_bool_str, kt_bool_tuple, kt_bool_list, kt_bool_dict, kt_int_int, kt_int_bool, kt_int_str, kt_int_tuple, kt_int_list, kt_int_dict, kt_str_int, kt_str_bool, kt_str_str, kt_str_tuple, kt_str_list, kt_str_dict, kt_tuple_int, kt_tuple_bool, kt_tuple_str, kt_tuple_tuple, kt_tuple_list, kt_tuple_dict, kt_list_int, kt_list_bool, kt_list_str, kt_list_tuple, kt_list_list, kt_list_dict, Int.reduceLE, Int.reduceSub, Int.reduceToNat, Int.reduceNeg, and_self, true_and, and_true, e1, hn, e2, e3, tupleG, e4, e5, i1, ix1_0, s_told_two, s_told_told, List.length_map, t4, rm, f1, x_forS, x_withSrc_none, f2, f3]
  · -- two are alike
    have i1 := is_self15 (two_fit ci cj)
    have rows2 : rowOf ws ci = rowOf ws cj := by
      rcases R with ⟨hn, e⟩ | ⟨i, j, a, b, mp, ha, hb, e⟩
      · exact absurd e (by simp)
      · have ec : ∀ {x y : Cs}, encC x = encC y → x = y := fun {x y} h => by
          cases x with
          | none => cases y with
            | none => rfl
            | some q => cases h
          | some p => cases y with
            | none => cases h
            | some q =>
              obtain ⟨p1, p2⟩ := p
              obtain ⟨q1, q2⟩ := q
              simp only [encC, D.tup.injEq, List.cons.injEq, D.int.injEq, and_true] at h
              rw [h.1, h.2]
        simp only [List.cons.injEq, and_true, true_and] at e
        have ea := ec e.1
        have eb := ec e.2
        subst ea; subst eb
        have := mp.eq
        rw [List.getElem?_map, List.getElem?_map, ha, hb] at this
        exact Option.some.inj this
    obtain ⟨s9, f9, l9⟩ := tells_loop (n := n) (ws := ws) (a := ci) (b := cj) (s0 := .mu .ref hd3) (s1 := .v (.int n)) (s2 := .v (.str k.str)) rows2
    obtain ⟨hd5, r2, s7, s8, ord, ws2, _, f1, f2, f3, R2, pr, k9⟩ := fin (s9 := s9) (s10 := .no) (k3.mono (by omega))
    obtain ⟨c2, d2, r2e⟩ : ∃ c2 d2, r2 = [.str "two", encC c2, encC d2] := by
      rcases R2.first with ⟨nn, _⟩ | ⟨_, c2, d2, _, e⟩
      · exact absurd (pr.nodup_iff.mp nn) nd
      · exact ⟨c2, d2, e⟩
    subst r2e
    refine ⟨hd5, ?_, k9.mono (by omega)⟩
    unfold F__law_is_right fnD b__law_is_right
    simp only [x_free0, x_freeS, free1_v, free1_no, free1_own, peek, peekL, thaw, argSls, argSl, als, nodup?, putBack, stepBack, tyOf, mutK, shOk, plainR, outs, x_seqS, List.replicate, List.append_nil, List.nil_append, List.cons_append, List.getElem?_cons_zero, List.getElem?_cons_succ, List.set_cons_zero, List.set_cons_succ, if_true, Bool.false_eq_true, if_false, reduceIte, List.contains_nil, List.contains_cons, Bool.not_false, Bool.not_true, Bool.and_true, Bool.true_and, Bool.and_false, Bool.or_false, Bool.false_or, Bool.false_and, Bool.true_or, Bool.or_true, addG_int, subI_int, eqG_int, neG_int, eqG_bl, neG_bl, cmpI_int, intG, lenG, absG, List.length_cons, sizeLine_eq, Nat.reduceLeDiff, Nat.reduceLT, Nat.zero_le, Nat.zero_add, List.length_nil, Nat.reduceAdd, beq_self_eq_true, Nat.reduceBEq, reduceCtorEq, Nat.reduceEqDiff, bd_ok, bd_bad, bd_err, x_nopS, x_badS, x_bkS, x_ctS, x_ifM, x_ifS, x_dropS, x_retS, x_retR_v, x_retR_fr, x_retR_al, x_retN, x_setS, x_setR_v, x_setR_fr, x_setR_al, x_varM, x_litM, x_liftO_v, x_liftO_fr, x_liftO_n, x_bin2, x_peek2, x_un1, x_asB, x_toB, x_andM, x_orM, x_notM, x_andV, x_orV, x_notV, x_nilA, x_consA, x_nilV, x_consV, x_tupM, x_lstM, x_callM, x_toV, x_toP, x_toPr_v, x_toPr_fr, x_toPr_al, callR_ok, x_callF, x_isaM, x_chainM, x_noPartM, x_partM, x_sliceM, x_setIx, x_mutM, x_mutK, x_par2, x_par3, x_asgS, x_setD, x_tupG, x_consG, x_nilG, x_seqN, x_enumN, x_seqV, x_enumI, x_zipI, x_rng1, x_rng2, x_sortSetM, x_rgM, kt_NoneType_int, kt_NoneType_bool, kt_NoneType_str, kt_NoneType_tuple, kt_NoneType_list, kt_NoneType_dict, kt_bool_int, kt_bool_bool, kt_bool_str, kt_bool_tuple, kt_bool_list, kt_bool_dict, kt_int_int, kt_int_bool, kt_int_str, kt_int_tuple, kt_int_list, kt_int_dict, kt_str_int, kt_str_bool, kt_str_str, kt_str_tuple, kt_str_list, kt_str_dict, kt_tuple_int, kt_tuple_bool, kt_tuple_str, kt_tuple_tuple, kt_tuple_list, kt_tuple_dict, kt_list_int, kt_list_bool, kt_list_str, kt_list_tuple, kt_list_list, kt_list_dict, Int.reduceLE, Int.reduceSub, Int.reduceToNat, Int.reduceNeg, and_self, true_and, and_true, e1, hn, e2, e3, tupleG, e4, e5, i1, ix3_0, s_two_two, s_two_told, l9, rm, f1, x_forS, x_withSrc_none, f2, f3]
end K59
set_option linter.all false
set_option maxRecDepth 100000
set_option maxHeartbeats 4000000
namespace K59
open PySem PySem.Spec PyProof.Rows L2 Fw
theorem apart_told {n : Nat} {k : Kd} {ws : List Wg} (h1 : 1 ≤ n) (h2 : n ≤ 12) (hw : ∀ w ∈ ws, WOk n w) (hl : ws.length ≤ 4) (nd : ((casesL n k).map (rowOf ws)).Nodup) : F_told_apart [.v (.int n), .v (.str k.str), .v (.tup (ws.map encW))] = .ok (.v (.tup [.str "told"])) [.v (.int n), .v (.str k.str), .v (.tup (ws.map encW))] := by
  obtain ⟨r, e, R⟩ := told_ok h1 h2 hw hl (k := k)
  have := R.uniq (.inl ⟨noPair_iff.mpr nd, rfl⟩)
  rw [this] at e
  exact e
theorem apart_two {n : Nat} {k : Kd} {ws : List Wg} (i j : Nat) (a b : Cs) (h1 : 1 ≤ n) (h2 : n ≤ 12) (hw : ∀ w ∈ ws, WOk n w) (hl : ws.length ≤ 4) (mp : MinPair ((casesL n k).map (rowOf ws)) i j) (ha : (casesL n k)[i]? = some a) (hb : (casesL n k)[j]? = some b) :
    F_told_apart [.v (.int n), .v (.str k.str), .v (.tup (ws.map encW))] = .ok (.v (.tup [.str "two", encC a, encC b])) [.v (.int n), .v (.str k.str), .v (.tup (ws.map encW))] := by
  obtain ⟨r, e, R⟩ := told_ok h1 h2 hw hl (k := k)
  have := R.uniq (.inr ⟨i, j, a, b, mp, ha, hb, rfl⟩)
  rw [this] at e
  exact e
theorem wok_dec {n : Nat} {w : Wg} (h : (w.1.all (fun x => decide (0 ≤ x ∧ x ≤ (n : Int) - 1)) && w.2.all (fun x => decide (0 ≤ x ∧ x ≤ (n : Int) - 1)) && decide (w.1.Pairwise (· < ·)) && decide (w.2.Pairwise (· < ·)) && decide (0 < w.1.length) && decide (w.1.length = w.2.length) && w.1.all fun x => !decide (x ∈ w.2)) = true) : WOk n w := by
  simp only [Bool.and_eq_true, List.all_eq_true, decide_eq_true_eq, Bool.not_eq_true', decide_eq_false_iff_not] at h
  obtain ⟨⟨⟨⟨⟨⟨a, b⟩, c⟩, d⟩, e⟩, f⟩, g⟩ := h
  exact ⟨a, b, c, d, e, by omega, f, g⟩
theorem all_true : ∀ {r : List D}, (∀ x ∈ r, x = .bl true) → r = r.map fun _ => .bl true
  | [], _ => rfl
  | x :: r, h => by
    rw [List.map_cons, ← all_true (r := r) fun y hy => h y (List.mem_cons_of_mem _ hy), h x List.mem_cons_self]
theorem pure_law (ns : List Int) (h : ns.length ≤ 63) (b : Bool) : ∃ os, F_law [scr b ns] = .ok (.v (.bl true)) os := by
  obtain ⟨hd, e1, k1⟩ := hand_ok ns b
  have t3 := threes_3
  have t9 := threes_9
  have a1 : F_told_apart [.v (.int 3), .v (.str "heavy"), .v (.tup ([([0], [1])].map encW))] = .ok (.v (.tup [.str "told"])) [.v (.int 3), .v (.str "heavy"), .v (.tup ([([0], [1])].map encW))] := apart_told (n := 3) (k := .hv) (ws := [([0], [1])]) (by omega) (by omega) (fun w hw => by simp at hw; subst hw; exact wok_dec (by decide)) (by simp) (by decide)
  have a2 : F_told_apart [.v (.int 9), .v (.str "heavy"), .v (.tup ([([0, 3, 6], [1, 4, 7]), ([0, 1, 2], [3, 4, 5])].map encW))] = .ok (.v (.tup [.str "told"])) [.v (.int 9), .v (.str "heavy"), .v (.tup ([([0, 3, 6], [1, 4, 7]), ([0, 1, 2], [3, 4, 5])].map encW))] := apart_told (n := 9) (k := .hv) (ws := [([0, 3, 6], [1, 4, 7]), ([0, 1, 2], [3, 4, 5])]) (by omega) (by omega) (fun w hw => by
    simp only [List.mem_cons, List.not_mem_nil, or_false] at hw
    rcases hw with rfl | rfl <;> exact wok_dec (by decide)) (by simp) (by decide)
  have a3 : F_told_apart [.v (.int 2), .v (.str "heavy"), .v (.tup [])] = .ok (.v (.tup [.str "two", .tup [.int 0, .int 1], .tup [.int 1, .int 1]])) [.v (.int 2), .v (.str "heavy"), .v (.tup [])] := apart_two (n := 2) (k := .hv) (ws := []) 0 1 (some (0, 1)) (some (1, 1)) (by omega) (by omega) (by simp) (by simp) ⟨by omega, by decide, by decide, fun k a b => by omega, fun i' k a => by omega⟩ (by decide) (by decide)
  have a4 : F_told_apart [.v (.int 1), .v (.str "or none"), .v (.tup [])] = .ok (.v (.tup [.str "two", .non, .tup [.int 0, .int (-1)]])) [.v (.int 1), .v (.str "or none"), .v (.tup [])] := apart_two (n := 1) (k := .on) (ws := []) 0 1 none (some (0, -1)) (by omega) (by omega) (by simp) (by simp) ⟨by omega, by decide, by decide, fun k a b => by omega, fun i' k a => by omega⟩ (by decide) (by decide)
  have a5 : F_told_apart [.v (.int 2), .v (.str "either"), .v (.tup ([([0], [1])].map encW))] = .ok (.v (.tup [.str "two", .tup [.int 0, .int (-1)], .tup [.int 1, .int 1]])) [.v (.int 2), .v (.str "either"), .v (.tup ([([0], [1])].map encW))] := apart_two (n := 2) (k := .ei) (ws := [([0], [1])]) 0 3 (some (0, -1)) (some (1, 1)) (by omega) (by omega) (fun w hw => by simp at hw; subst hw; exact wok_dec (by decide)) (by simp) ⟨by omega, by decide, by decide, fun k a b => by
    have : k = 1 ∨ k = 2 := by omega
    rcases this with rfl | rfl <;> decide, fun i' k a => by omega⟩ (by decide) (by decide)
  have a6 : F_told_apart [.v (.int 1), .v (.str "heavy"), .v (.tup [])] = .ok (.v (.tup [.str "told"])) [.v (.int 1), .v (.str "heavy"), .v (.tup [])] := apart_told (n := 1) (k := .hv) (ws := []) (by omega) (by omega) (by simp) (by simp) (by decide)
  have n1 := neG_self (d := .tup [.str "told"]) (fit_mono told_fit (by decide))
  have n3 : neG (.tup [.str "two", .tup [.int 0, .int 1], .tup [.int 1, .int 1]]) (.tup [.str "two", .tup [.int 0, .int 1], .tup [.int 1, .int 1]]) = some (.v (.bl false)) := neG_self (fit_mono (two_fit (some (0, 1)) (some (1, 1))) (by decide))
  have n4 : neG (.tup [.str "two", .non, .tup [.int 0, .int (-1)]]) (.tup [.str "two", .non, .tup [.int 0, .int (-1)]]) = some (.v (.bl false)) := neG_self (fit_mono (two_fit none (some (0, -1))) (by decide))
  have n5 : neG (.tup [.str "two", .tup [.int 0, .int (-1)], .tup [.int 1, .int 1]]) (.tup [.str "two", .tup [.int 0, .int (-1)], .tup [.int 1, .int 1]]) = some (.v (.bl false)) := neG_self (fit_mono (two_fit (some (0, -1)) (some (1, 1))) (by decide))
  obtain ⟨r, en', l1, ⟨hd', rfl, k'⟩, l3, l4⟩ := lcL_rel (vs := [2]) (g := setD 2) (fe := toV (callF F__law_is_right (consA (varM 1) nilA))) (ds := rangeL 0 6) (en := [scr b ns, .mu .own hd, .no])
    (fun j en => ∃ hd', en = [scr b ns, .mu .own hd', .no] ∧ HOk (1000 * j) hd') (fun _ x => x = .bl true) ⟨hd, rfl, by simpa using k1⟩ (fun i d en hd2 ⟨hd', e, k⟩ => by
      subst e
      have hi := (List.getElem?_eq_some_iff.mp hd2).1
      rw [rangeL_len] at hi
      obtain ⟨hd3, e3, k3⟩ := right_ok k (by omega)
      refine ⟨[scr b ns, .mu .own hd', .v d], .bl true, [scr b ns, .mu .own hd3, .v d], ?_, ?_, rfl, hd3, rfl, by rw [Nat.mul_add]; exact k3⟩
      · simp only [x_free0, x_freeS, free1_v, free1_no, free1_own, peek, peekL, thaw, argSls, argSl, als, nodup?, putBack, stepBack, tyOf, mutK, shOk, plainR, outs, x_seqS, List.replicate, List.append_nil, List.nil_append, List.cons_append, List.getElem?_cons_zero, List.getElem?_cons_succ, List.set_cons_zero, List.set_cons_succ, if_true, Bool.false_eq_true, if_false, reduceIte, List.contains_nil, List.contains_cons, Bool.not_false, Bool.not_true, Bool.and_true, Bool.true_and, Bool.and_false, Bool.or_false, Bool.false_or, Bool.false_and, Bool.true_or, Bool.or_true, addG_int, subI_int, eqG_int, neG_int, eqG_bl, neG_bl, cmpI_int, intG, lenG, absG, List.length_cons, sizeLine_eq, Nat.reduceLeDiff, Nat.reduceLT, Nat.zero_le, Nat.zero_add, List.length_nil, Nat.reduceAdd, beq_self_eq_true, Nat.reduceBEq, reduceCtorEq, Nat.reduceEqDiff, bd_ok, bd_bad, bd_err, x_nopS, x_badS, x_bkS, x_ctS, x_ifM, x_ifS, x_dropS, x_retS, x_retR_v, x_retR_fr, x_retR_al, x_retN, x_setS, x_setR_v, x_setR_fr, x_setR_al, x_varM, x_litM, x_liftO_v, x_liftO_fr, x_liftO_n, x_bin2, x_peek2, x_un1, x_asB, x_toB, x_andM, x_orM, x_notM, x_andV, x_orV, x_notV, x_nilA, x_consA, x_nilV, x_consV, x_tupM, x_lstM, x_callM, x_toV, x_toP, x_toPr_v, x_toPr_fr, x_toPr_al, callR_ok, x_callF, x_isaM, x_chainM, x_noPartM, x_partM, x_sliceM, x_setIx, x_mutM, x_mutK, x_par2, x_par3, x_asgS, x_setD, x_tupG, x_consG, x_nilG, x_seqN, x_enumN, x_seqV, x_enumI, x_zipI, x_rng1, x_rng2, x_sortSetM, x_rgM, kt_NoneType_int, kt_NoneType_bool, kt_NoneType_str, kt_NoneType_tuple, kt_NoneType_list, kt_NoneType_dict, kt_bool_int, kt_bool_bool, kt_bool_str, kt_bool_tuple, kt_bool_list, kt_bool_dict, kt_int_int, kt_int_bool, kt_int_str, kt_int_tuple, kt_int_list, kt_int_dict, kt_str_int, kt_str_bool, kt_str_str, kt_str_tuple, kt_str_list, kt_str_dict, kt_tuple_int, kt_tuple_bool, kt_tuple_str, kt_tuple_tuple, kt_tuple_list, kt_tuple_dict, kt_list_int, kt_list_bool, kt_list_str, kt_list_tuple, kt_list_list, kt_list_dict, Int.reduceLE, Int.reduceSub, Int.reduceToNat, Int.reduceNeg, and_self, true_and, and_true]
      · simp only [x_free0, x_freeS, free1_v, free1_no, free1_own, peek, peekL, thaw, argSls, argSl, als, nodup?, putBack, stepBack, tyOf, mutK, shOk, plainR, outs, x_seqS, List.replicate, List.append_nil, List.nil_append, List.cons_append, List.getElem?_cons_zero, List.getElem?_cons_succ, List.set_cons_zero, List.set_cons_succ, if_true, Bool.false_eq_true, if_false, reduceIte, List.contains_nil, List.contains_cons, Bool.not_false, Bool.not_true, Bool.and_true, Bool.true_and, Bool.and_false, Bool.or_false, Bool.false_or, Bool.false_and, Bool.true_or, Bool.or_true, addG_int, subI_int, eqG_int, neG_int, eqG_bl, neG_bl, cmpI_int, intG, lenG, absG, List.length_cons, sizeLine_eq, Nat.reduceLeDiff, Nat.reduceLT, Nat.zero_le, Nat.zero_add, List.length_nil, Nat.reduceAdd, beq_self_eq_true, Nat.reduceBEq, reduceCtorEq, Nat.reduceEqDiff, bd_ok, bd_bad, bd_err, x_nopS, x_badS, x_bkS, x_ctS, x_ifM, x_ifS, x_dropS, x_retS, x_retR_v, x_retR_fr, x_retR_al, x_retN, x_setS, x_setR_v, x_setR_fr, x_setR_al, x_varM, x_litM, x_liftO_v, x_liftO_fr, x_liftO_n, x_bin2, x_peek2, x_un1, x_asB, x_toB, x_andM, x_orM, x_notM, x_andV, x_orV, x_notV, x_nilA, x_consA, x_nilV, x_consV, x_tupM, x_lstM, x_callM, x_toV, x_toP, x_toPr_v, x_toPr_fr, x_toPr_al, callR_ok, x_callF, x_isaM, x_chainM, x_noPartM, x_partM, x_sliceM, x_setIx, x_mutM, x_mutK, x_par2, x_par3, x_asgS, x_setD, x_tupG, x_consG, x_nilG, x_seqN, x_enumN, x_seqV, x_enumI, x_zipI, x_rng1, x_rng2, x_sortSetM, x_rgM, kt_NoneType_int, kt_NoneType_bool, kt_NoneType_str, kt_NoneType_tuple, kt_NoneType_list, kt_NoneType_dict, kt_bool_int, kt_bool_bool, kt_bool_str, kt_bool_tuple, kt_bool_list, kt_bool_dict, kt_int_int, kt_int_bool, kt_int_str, kt_int_tuple, kt_int_list, kt_int_dict, kt_str_int, kt_str_bool, kt_str_str, kt_str_tuple, kt_str_list, kt_str_dict, kt_tuple_int, kt_tuple_bool, kt_tuple_str, kt_tuple_tuple, kt_tuple_list, kt_tuple_dict, kt_list_int, kt_list_bool, kt_list_str, kt_list_tuple, kt_list_list, kt_list_dict, Int.reduceLE, Int.reduceSub, Int.reduceToNat, Int.reduceNeg, and_self, true_and, and_true, e3])
  have hr : r = r.map fun _ => .bl true := all_true fun x hx => by
    obtain ⟨i, hi, e⟩ := List.getElem_of_mem hx
    have hi2 : i < (rangeL 0 6).length := by omega
    exact l4 i _ x (List.getElem?_eq_getElem hi2) (by rw [List.getElem?_eq_getElem hi, e])
  have al : allG [.lst r] = some (.v (.bl true)) := by rw [hr]; exact all_mapT r
  have src : rng1 (litM (.int 6)) [scr b ns, .mu .own hd, .no] = .ok (rangeL 0 6, none) [scr b ns, .mu .own hd, .no] := rfl
  have lc := lcM_none (vs := [2]) (g := setD 2) (ft := yesM) (fe := toV (callF F__law_is_right (consA (varM 1) nilA))) src l1
  simp only [List.map_cons, List.map_nil, encW, intL] at a1 a2 a5 t3 t9
  refine ⟨[scr b ns], ?_⟩
  unfold F_law fnD b_law
  cases b with
  | true =>
    simp only [scr, if_true] at e1 lc
    simp only [x_free0, x_freeS, free1_v, free1_no, free1_own, peek, peekL, thaw, argSls, argSl, als, nodup?, putBack, stepBack, tyOf, mutK, shOk, plainR, outs, x_seqS, List.replicate, List.append_nil, List.nil_append, List.cons_append, List.getElem?_cons_zero, List.getElem?_cons_succ, List.set_cons_zero, List.set_cons_succ, if_true, Bool.false_eq_true, if_false, reduceIte, List.contains_nil, List.contains_cons, Bool.not_false, Bool.not_true, Bool.and_true, Bool.true_and, Bool.and_false, Bool.or_false, Bool.false_or, Bool.false_and, Bool.true_or, Bool.or_true, addG_int, subI_int, eqG_int, neG_int, eqG_bl, neG_bl, cmpI_int, intG, lenG, absG, List.length_cons, sizeLine_eq, Nat.reduceLeDiff, Nat.reduceLT, Nat.zero_le, Nat.zero_add, List.length_nil, Nat.reduceAdd, beq_self_eq_true, Nat.reduceBEq, reduceCtorEq, Nat.reduceEqDiff, bd_ok, bd_bad, bd_err, x_nopS, x_badS, x_bkS, x_ctS, x_ifM, x_ifS, x_dropS, x_retS, x_retR_v, x_retR_fr, x_retR_al, x_retN, x_setS, x_setR_v, x_setR_fr, x_setR_al, x_varM, x_litM, x_liftO_v, x_liftO_fr, x_liftO_n, x_bin2, x_peek2, x_un1, x_asB, x_toB, x_andM, x_orM, x_notM, x_andV, x_orV, x_notV, x_nilA, x_consA, x_nilV, x_consV, x_tupM, x_lstM, x_callM, x_toV, x_toP, x_toPr_v, x_toPr_fr, x_toPr_al, callR_ok, x_callF, x_isaM, x_chainM, x_noPartM, x_partM, x_sliceM, x_setIx, x_mutM, x_mutK, x_par2, x_par3, x_asgS, x_setD, x_tupG, x_consG, x_nilG, x_seqN, x_enumN, x_seqV, x_enumI, x_zipI, x_rng1, x_rng2, x_sortSetM, x_rgM, kt_NoneType_int, kt_NoneType_bool, kt_NoneType_str, kt_NoneType_tuple, kt_NoneType_list, kt_NoneType_dict, kt_bool_int, kt_bool_bool, kt_bool_str, kt_bool_tuple, kt_bool_list, kt_bool_dict, kt_int_int, kt_int_bool, kt_int_str, kt_int_tuple, kt_int_list, kt_int_dict, kt_str_int, kt_str_bool, kt_str_str, kt_str_tuple, kt_str_list, kt_str_dict, kt_tuple_int, kt_tuple_bool, kt_tuple_str, kt_tuple_tuple, kt_tuple_list, kt_tuple_dict, kt_list_int, kt_list_bool, kt_list_str, kt_list_tuple, kt_list_list, kt_list_dict, Int.reduceLE, Int.reduceSub, Int.reduceToNat, Int.reduceNeg, and_self, true_and, and_true, scr, e1, t3, t9, a1, a2, a3, a4, a5, a6, n1, n3, n4, n5, neg1, lc, al]
    rfl
  | false =>
    simp only [scr, Bool.false_eq_true, if_false] at e1 lc
    simp only [x_free0, x_freeS, free1_v, free1_no, free1_own, peek, peekL, thaw, argSls, argSl, als, nodup?, putBack, stepBack, tyOf, mutK, shOk, plainR, outs, x_seqS, List.replicate, List.append_nil, List.nil_append, List.cons_append, List.getElem?_cons_zero, List.getElem?_cons_succ, List.set_cons_zero, List.set_cons_succ, if_true, Bool.false_eq_true, if_false, reduceIte, List.contains_nil, List.contains_cons, Bool.not_false, Bool.not_true, Bool.and_true, Bool.true_and, Bool.and_false, Bool.or_false, Bool.false_or, Bool.false_and, Bool.true_or, Bool.or_true, addG_int, subI_int, eqG_int, neG_int, eqG_bl, neG_bl, cmpI_int, intG, lenG, absG, List.length_cons, sizeLine_eq, Nat.reduceLeDiff, Nat.reduceLT, Nat.zero_le, Nat.zero_add, List.length_nil, Nat.reduceAdd, beq_self_eq_true, Nat.reduceBEq, reduceCtorEq, Nat.reduceEqDiff, bd_ok, bd_bad, bd_err, x_nopS, x_badS, x_bkS, x_ctS, x_ifM, x_ifS, x_dropS, x_retS, x_retR_v, x_retR_fr, x_retR_al, x_retN, x_setS, x_setR_v, x_setR_fr, x_setR_al, x_varM, x_litM, x_liftO_v, x_liftO_fr, x_liftO_n, x_bin2, x_peek2, x_un1, x_asB, x_toB, x_andM, x_orM, x_notM, x_andV, x_orV, x_notV, x_nilA, x_consA, x_nilV, x_consV, x_tupM, x_lstM, x_callM, x_toV, x_toP, x_toPr_v, x_toPr_fr, x_toPr_al, callR_ok, x_callF, x_isaM, x_chainM, x_noPartM, x_partM, x_sliceM, x_setIx, x_mutM, x_mutK, x_par2, x_par3, x_asgS, x_setD, x_tupG, x_consG, x_nilG, x_seqN, x_enumN, x_seqV, x_enumI, x_zipI, x_rng1, x_rng2, x_sortSetM, x_rgM, kt_NoneType_int, kt_NoneType_bool, kt_NoneType_str, kt_NoneType_tuple, kt_NoneType_list, kt_NoneType_dict, kt_bool_int, kt_bool_bool, kt_bool_str, kt_bool_tuple, kt_bool_list, kt_bool_dict, kt_int_int, kt_int_bool, kt_int_str, kt_int_tuple, kt_int_list, kt_int_dict, kt_str_int, kt_str_bool, kt_str_str, kt_str_tuple, kt_str_list, kt_str_dict, kt_tuple_int, kt_tuple_bool, kt_tuple_str, kt_tuple_tuple, kt_tuple_list, kt_tuple_dict, kt_list_int, kt_list_bool, kt_list_str, kt_list_tuple, kt_list_list, kt_list_dict, Int.reduceLE, Int.reduceSub, Int.reduceToNat, Int.reduceNeg, and_self, true_and, and_true, scr, e1, t3, t9, a1, a2, a3, a4, a5, a6, n1, n3, n4, n5, neg1, lc, al]
    rfl
end K59
set_option Elab.async false
set_option linter.all false
set_option maxRecDepth 100000
set_option maxHeartbeats 0
open PySem PySem.W PySem.Calls PyProof.Rows
theorem PySem.Challenge.cw_fewforces_k59_whole_weighings_that_tell_holds : PySem.Challenge.rw_fewforces_k59_whole_weighings_that_tell.Holds := by
  w_on; o_law
  refine HandSHeadRun.head_any (r := OpenLaw.row PySem.Challenge.rw_fewforces_k59_whole_weighings_that_tell) (q := view (OpenLaw.row PySem.Challenge.rw_fewforces_k59_whole_weighings_that_tell).prog [31]) (H := K59.hkk) (ob := K59.ob) (M := 3000) (loose := K59.looseAll) (d := HandSHeadRun.topDef (OpenLaw.row PySem.Challenge.rw_fewforces_k59_whole_weighings_that_tell).prog 31) (kwd := []) K59.ob_eq
    (by kernel_rfl) (fun s => by kernel_rfl) K59.run (by kernel_rfl) (by kernel_rfl) (by kernel_rfl) (by rfl) (by first | assumption | decide +kernel) (by decide +kernel) ⟨rfl, rfl, rfl, rfl, rfl, by decide +kernel⟩ ?hw ?hc
  case hw => w_witness2
  case hc =>
    refine Fw.walk_w (l := PySem.Challenge.rw_fewforces_k59_whole_weighings_that_tell) (n := 63) (k := 19) (x := "script") (CX := fun w => L2.CX (PySem.Challenge.rw_fewforces_k59_whole_weighings_that_tell).prog w) rfl (by decide) (by kernel_rfl) ⟨rfl, by decide, by decide⟩ ?F ?X
    case X =>
      intro w H s e s2 z
      obtain ⟨_, _, _, _, _, _, _, _, _, _, _, _, z⟩ := z
      exact z
    case F =>
      intro w mg fa h Y G hmg0
      obtain ⟨K, KX, c⟩ := Y
      have hmg : mg ("law" : PySem.Str) = some (.ref fa) := by
        have e : (HandSHeadRun.topDef (OpenLaw.row PySem.Challenge.rw_fewforces_k59_whole_weighings_that_tell).prog 31).name = ("law" : PySem.Str) := by kernel_rfl
        rw [← e]
        exact hmg0
      obtain ⟨fc, ⟨FL⟩⟩ := K59.facts KX G c
      have ef : fa = fc.f_law := by
        have := hmg.symm.trans fc.g_law
        cases this; rfl
      subst ef
      have b := L2.FunD.bindsA (ps := ["script"]) FL fun _ _ _ _ _ _ us hl => match us, hl with | [_], _ => rfl
      exact ⟨K, fc.d_law, Fw.spD K mg 1 K59.F_law, KX, fun s v => b s [v] rfl, fun H a ns hl _ hS => Fw.law_sp hS fun b => K59.pure_law ns hl b, fun base _ _ => K59.ok_law fc (k := 0)⟩
